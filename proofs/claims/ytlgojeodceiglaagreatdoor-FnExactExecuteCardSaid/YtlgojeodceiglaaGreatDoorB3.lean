/- Execute: a part of what is shown of the program's Execute and the reference's. -/
import Derived.Test.YtlgojeodceiglaaGreatDoorB2
namespace Go.Proofs.YtlgojeodceiglaaGreatDoor.PFnExactExecute
open Go.RowKit Go.Proofs.YtlgojeodceiglaaGreatDoorW.PrintWords Go.Proofs.YtlgojeodceiglaaGreatDoorW.PrintLast Go.Proofs.YtlgojeodceiglaaGreatDoorW.PrintMore
attribute [local go_sem] WO WQ WS WT WM WN WP WR
set_option linter.unusedVariables false
set_option linter.unusedSimpArgs false
set_option maxRecDepth 100000
set_option maxHeartbeats 0
namespace U
def big (n:Int):Prop:=-9223372036854775808<=n/\n<=9223372036854775807
theorem Fw (n:Int):big (wrap64 n):=by unfold big wrap64;omega
theorem Cg {n:Int} (h:-1000000<=n/\n<=1000000):big n:=by unfold big;omega
def Two (f g:Nat->Option ByteArray):Prop:=∃ t:ByteArray,t.size<=1700/\Ev f t/\Ev g (t++⟨#[10]⟩)
def joinN (sep:List UInt8) (xs:List Int):List UInt8:=Lib.join (xs.map Lib.itoa) sep
theorem Iz {n:Int} (h:big n):(Lib.itoa n).length<=20:=(Oy n h 20 (Wn _)).2
theorem Lb (sep q:List UInt8) (r:List (List UInt8)) (h:r≠[]):Lib.join (r++[q]) sep=Lib.join r sep++sep++q:=by
 match r,h with
 | x::r,_=>
  rw [List.cons_append,Lib.join_cons,Lib.join_cons];unfold Lib.joinTail;rw [List.map_append,List.flatten_append];simp [Wr]
theorem Gf (sep:List UInt8) (hs:sep.length=1) (B:Nat):∀ (r:List (List UInt8)),(∀ q∈r,q.length<=B)->(Lib.join r sep).length<=(B+1)*r.length
 | [],_=>by simp [Lib.join]
 | x::r,h=>by
  rw [Lib.join_cons,IN];have h1:=h x TO
  have h2:∀ r:List (List UInt8),(∀ q∈r,q.length<=B)->(Lib.joinTail sep r).length<=(B+1)*r.length:=by
   intro r
   induction r with
   | nil=>intro _;simp [Lib.joinTail]
   | cons z r ih=>
    intro h;have g1:=h z TO;have g2:=ih (λy hy=>h y (S2 _ hy));unfold Lib.joinTail at g2 ⊢;rw [Wz,List.flatten_cons,IN,IN,hs];simp only [It,IS,Nat.mul_add,Nat.mul_one];omega
  have h3:=h2 r (λq hq=>h q (S2 _ hq));rw [It,Nat.mul_add];omega
theorem Ge {sep:List UInt8} (hs:sep.length=1) {xs:List Int} (h:∀ x∈xs,big x):(joinN sep xs).length<=21*xs.length:=by
 have:=Gf sep hs 20 (xs.map Lib.itoa) (λq hq=>by
  obtain ⟨m,hm,rfl⟩:=List.mem_map.mp hq
  exact Iz (h m hm))
 rw [NO] at this;exact this
theorem NS (sep:List UInt8) (xs:List Int) (n:Int) (h:xs≠[]):joinN sep (xs++[n])=joinN sep xs++sep++Lib.itoa n:=by
 unfold joinN;rw [List.map_append,Wz,List.map_nil,Lb _ _ _ (by simpa using h)]
theorem Pv (sep:List UInt8) (n:Int):joinN sep [n]=Lib.itoa n:=by
 unfold joinN;rw [Wz,List.map_nil,Lib.join_one]
theorem MN {n:Int} (h:big n):strconv_Itoa.f n=some (bytes (Lib.itoa n)):=by
 unfold strconv_Itoa.f;unfold big at h;rw [if_pos ⟨by omega,by omega⟩];rfl
theorem Mk (xs:List Int) (i:Nat) (h:i<xs.length):xs.take (i+1)=xs.take i++[xs[i]]:=List.take_succ_eq_append_getElem h
theorem Ta (xs:List Int) (sep:List UInt8) (hs:sep.length=1) (hb:∀ x∈xs,big x) (h1:xs.length<=1000):∀ (d i:Nat) (out:List ByteArray),i+d=xs.length->out=(xs.take i).map (λn=>bytes (Lib.itoa n))->
  Ev (λk=>Bb.l0 k (bytes sep) out xs (xs.length:Int) (i:Int)) (bytes (joinN sep xs)):=by
 intro d
 induction d with
 | zero=>
  intro i out hi ho;have hl:=Ge hs hb;refine Ev.s ?_;simp only [Bb.l0];refine Ev.n (Ev.c ?_);rw [List.take_of_length_le (by omega)] at ho
  have e:out.map (·.data.toList)=xs.map Lib.itoa:=by
   rw [ho,List.map_map];exact List.map_congr_left λn _=>rfl
  unfold strings_Join.f;rw [e,show (bytes sep).data.toList=sep from rfl];have e3:Lib.join (xs.map Lib.itoa) sep=joinN sep xs:=rfl;rw [e3,if_pos ⟨by rw [ho,NO];omega,by omega⟩,AI]
  rfl
 | succ d ih=>
  intro i out hi ho;have hil:i<xs.length:=by omega
  have hol:out.length<=1000:=by rw [ho,NO,IT];omega
  refine Ev.s ?_;simp only [Bb.l0];rw [B9 hil,MN (hb _ (Wk hil)),At (by omega)];refine Ev.o (Ev.o (Ev.o (Ev.b (Ev.c rfl) (Ev.o ?_))));refine ih (i+1) _ (by omega) ?_;rw [Mk xs i hil,List.map_append,ho];rfl
theorem ntext {xs:List Int} {sep:List UInt8} (hs:sep.length=1) (hb:∀ x∈xs,big x) (h1:xs.length<=1000):Ev (λk=>Bb.f k xs (bytes sep)) (bytes (joinN sep xs)):=
 Ta xs sep hs hb h1 xs.length 0 [] (by omega) rfl
theorem NE {n:Int} (h:big n):Ev (λk=>AE.f k n) (bytes (Lib.itoa n)):=⟨20,λk hk=>(Oy n h k hk).1⟩
theorem Tn (xs:List Int) (sep:List UInt8) (hs:sep.length=1) (hb:∀ x∈xs,big x) (h1:xs.length<=1000):∀ (d i:Nat),i+d=xs.length->
  Ev (λk=>Cq.l0 k xs (bytes sep) (bytes (joinN sep (xs.take i))) (i:Int)) (bytes (joinN sep xs)):=by
 intro d
 induction d with
 | zero=>
  intro i hi;refine Ev.s ?_;simp only [Cq.l0];refine Ev.n (Ev.c ?_)
  rw [List.take_of_length_le (by omega)]
 | succ d ih=>
  intro i hi;have hil:i<xs.length:=by omega
  have hn:=hb _ (Wk hil);have hz:=Iz hn;have hl:=Ge hs (xs:=xs.take i) (λx hx=>hb x (List.mem_of_mem_take hx));rw [IT] at hl;refine Ev.s ?_;simp only [Cq.l0];rw [B9 hil,At (by omega)];have:=ih (i+1) (by omega);rw [Mk xs i hil] at this;refine Ev.o ?_;by_cases h0:i=0
  ·subst h0;refine Ev.n (Ev.o (Ev.b (NE hn) (Ev.t (by rw [A6,A6];omega) ?_)));rw [WE,Ws,Pv] at this;exact this
  ·refine Ev.o (Ev.t (by rw [A6,A6];omega) (Ev.o (Ev.b (NE hn) (Ev.t (by rw [Di,A6,A6,IN,hs];omega) ?_))));rw [NS _ _ _ (λh=>(List.take_eq_nil_iff.1 h).elim h0 (λh=>by rw [h] at hil;exact absurd hil (Nat.not_lt_zero _))),<- Di,<- Di] at this;exact this
theorem stext {xs:List Int} {sep:List UInt8} (hs:sep.length=1) (hb:∀ x∈xs,big x) (h1:xs.length<=1000):Ev (λk=>Cq.f k xs (bytes sep)) (bytes (joinN sep xs)):=
 Tn xs sep hs hb h1 xs.length 0 (by omega)
theorem GN {xs:List Int} (h:xs.length<=80) (hb:∀ x∈xs,big x):xs.length<=1000/\(joinN [32] xs).length<=1700:=by
 have:=Ge (sep:=[32]) rfl hb;omega
theorem Two.told {xs ys:List Int} {ok:Bool} (e:ok=true->xs=ys) (hb:ok=true->∀ x∈xs,big x) (h1:ok=true->xs.length<=1000/\(joinN [32] xs).length<=1700):Two (λk=>C8.f k xs ok) (λk=>BG.f k ys ok):=by
 unfold C8.f BG.f
 cases ok with
 | false=>exact ⟨⟨#[110,111]⟩,by decide,Ev.f (by decide) (Ev.c rfl),Ev.f (by decide) (Ev.c rfl)⟩
 | true=>
  obtain rfl:=e rfl;have hb:=hb rfl;obtain ⟨h1,hl⟩:=h1 rfl;by_cases h0:(xs.length:Int)=0
  ·exact ⟨⟨#[46]⟩,by decide,Ev.t rfl (Ev.t h0 (Ev.c rfl)),Ev.t rfl (Ev.t h0 (Ev.c rfl))⟩
  ·refine ⟨bytes (joinN [32] xs),by rw [A6];omega,Ev.t rfl (Ev.f h0 (Ev.b (ntext rfl hb h1) (Ev.c rfl))),Ev.t rfl (Ev.f h0 (Ev.b (stext rfl hb h1) (Ev.t (by rw [A6];omega) (Ev.c rfl))))⟩
theorem Two.bind {α β:Type} {F:Nat->Option α} {G:Nat->Option β} {f:Nat->α->Option ByteArray} {g:Nat->β->Option ByteArray} {a:α} {b:β} (hF:Ev F a) (hG:Ev G b) (h:Two (λk=>f k a) (λk=>g k b)):Two (λk=>(F k).bind (f k)) (λk=>(G k).bind (g k)):=by
 obtain ⟨t,h1,h2,h3⟩:=h;exact ⟨t,h1,hF.b h2,hG.b h3⟩
theorem Two.end_ {f g:Nat->Option ByteArray} (h:Two f g):Two (λk=>(f k).bind λt=>some t) (λk=>(g k).bind λt=>some t):=by
 obtain ⟨t,h1,h2,h3⟩:=h;exact ⟨t,h1,h2.b (Ev.c rfl),h3.b (Ev.c rfl)⟩
theorem Two.one {n m:Int} {ok:Bool} (e:ok=true->n=m) (hb:ok=true->big n):Two (λk=>Cz.f k n ok) (λk=>Bq.f k m ok):=by
 unfold Cz.f Bq.f;exact (Two.told (λh=>by rw [e h]) (λh x hx=>by rw [Wx.mp hx];exact hb h) (λh=>GN (by simp) λx hx=>by rw [Wx.mp hx];exact hb h)).end_
theorem Two.written {s t:ByteArray} {ok:Bool} (e:ok=true->s=t) (hs:ok=true->s.size<=1700):Two (λ_=>CZ.f s ok) (λ_=>CT.f t ok):=by
 unfold CZ.f CT.f
 cases ok with
 | false=>exact ⟨⟨#[110,111]⟩,by decide,Ev.f (by decide) (Ev.c rfl),Ev.f (by decide) (Ev.c rfl)⟩
 | true=>
  obtain rfl:=e rfl;have hs:=hs rfl;exact ⟨s,hs,Ev.t rfl (Ev.c rfl),Ev.t rfl (Ev.o (Ev.c rfl))⟩

end U
namespace U
def Num (F G:Nat->Option (Int×Bool)):Prop:=∃ n m ok,Ev F (n,ok)/\Ev G (m,ok)/\(ok=true->n=m/\big n)
def Lst (F G:Nat->Option (List Int×Bool)):Prop:=∃ xs ys ok,Ev F (xs,ok)/\Ev G (ys,ok)/\(ok=true->xs=ys/\(∀ x∈xs,big x)/\xs.length<=1000/\(joinN [32] xs).length<=1700)
def Txt (F G:Nat->Option (ByteArray×Bool)):Prop:=∃ s t ok,Ev F (s,ok)/\Ev G (t,ok)/\(ok=true->s=t/\s.size<=1700)
theorem Num.no {F G:Nat->Option (Int×Bool)} {n m:Int} (hF:Ev F (n,false)) (hG:Ev G (m,false)):Num F G:=⟨n,m,false,hF,hG,λh=>by cases h⟩
theorem Num.yes {F G:Nat->Option (Int×Bool)} {n:Int} (hF:Ev F (n,true)) (hG:Ev G (n,true)) (hb:big n):Num F G:=⟨n,n,true,hF,hG,λ_=>⟨rfl,hb⟩⟩
theorem Lst.no {F G:Nat->Option (List Int×Bool)} {n m:List Int} (hF:Ev F (n,false)) (hG:Ev G (m,false)):Lst F G:=⟨n,m,false,hF,hG,λh=>by cases h⟩
theorem Lst.yes {F G:Nat->Option (List Int×Bool)} {n:List Int} (hF:Ev F (n,true)) (hG:Ev G (n,true)) (hb:∀ x∈n,big x) (hl:n.length<=80):Lst F G:=⟨n,n,true,hF,hG,λ_=>⟨rfl,hb,GN hl hb⟩⟩
theorem Txt.no {F G:Nat->Option (ByteArray×Bool)} {n m:ByteArray} (hF:Ev F (n,false)) (hG:Ev G (m,false)):Txt F G:=⟨n,m,false,hF,hG,λh=>by cases h⟩
theorem Txt.yes {F G:Nat->Option (ByteArray×Bool)} {n:ByteArray} (hF:Ev F (n,true)) (hG:Ev G (n,true)) (hl:n.size<=1700):Txt F G:=⟨n,n,true,hF,hG,λ_=>⟨rfl,hl⟩⟩
section
variable {l:List Int}
theorem ib (hr:Ag l):Ev (λk=>AA.f k l) (decide (AM l)):=⟨_,DZ l (by have:=hr.2;omega)⟩
theorem sb (hr:Ag l):Ev (λk=>Ar.f k l) (decide (AM l)):=⟨_,Ew l (by have:=hr.2;omega)⟩
theorem isu (hr:Ag l):Ev (λk=>B8.f k l) l.sum:=⟨_,Gj l (by have:=hr.2;omega) hr.1⟩
theorem ssu (hr:Ag l):Ev (λk=>B4.f k l) l.sum:=⟨_,Gz l (by have:=hr.2;omega) hr.1⟩
theorem iga (hr:Ag l):Ev (λk=>DU.f k l) (gapOf l):=⟨_,HU l hr⟩
theorem sga (hr:Ag l):Ev (λk=>Dw.f k l) (gapOf l):=⟨_,Ib l hr⟩
theorem FJ (hr:Ag l):0<=l.sum/\l.sum<=540:=by
 have h:=hr.2
 have:∀ r:List Int,(∀ x∈r,1<=x/\x<=60)->0<=r.sum/\r.sum<=60*r.length:=by
  intro r
  induction r with
  | nil=>intro _;simp
  | cons x r ih=>
   intro hx;have h1:=hx x TO;have h2:=ih λy hy=>hx y (S2 _ hy);rw [List.sum_cons,It];omega
 have:=this l hr.1;omega
theorem Gq (hr:Ag l):-120<=gapOf l/\gapOf l<=540:=by
 have h:=FJ hr;have hi:l.length-1<l.length:=by have:=hr.2;omega
 have h2:=hr.1 _ (Wk hi);unfold gapOf;rw [B9 hi];omega
theorem Kz (hr:Ag l) {n:Nat} (h1:1<=n) (h2:n<=l.length):Ag (l.take n):=
 ⟨λx hx=>hr.1 x (List.mem_of_mem_take hx),by rw [IT];omega,by have:=hr.2;rw [IT];omega⟩
theorem Nc (hb:AM l) {n:Nat} (h1:1<=n) (h2:n<=l.length):AM (l.take n):=by
 refine ⟨Kz hb.1 h1 h2,λj hj h0=>?_⟩;rw [IT] at hj;have:=hb.2 j (by omega) h0;rw [B9 (by omega),B9 (by omega)] at this;rw [B9 (by rw [IT];omega),B9 (by rw [IT];omega),List.getElem_take,List.getElem_take];exact this
theorem V0 (hr:Ag l):Num (λk=>Ei.f k l) (λk=>En.f k l):=by
 unfold Ei.f En.f;have:=FJ hr;by_cases hb:AM l
 ·exact .yes ((ib hr).b (.t (by simpa using hb) ((isu hr).b (.c rfl)))) ((sb hr).b (.t (by simpa using hb) ((ssu hr).b (.c rfl)))) (Cg (by omega))
 ·exact .no ((ib hr).b (.f (by simpa using hb) (.c rfl))) ((sb hr).b (.f (by simpa using hb) (.c rfl)))
theorem VZ (hr:Ag l):Num (λk=>ED.f k l) (λk=>EJ.f k l):=by
 unfold ED.f EJ.f;have:=Gq hr;by_cases hb:AM l
 ·exact .yes ((ib hr).b (.t (by simpa using hb) ((iga hr).b (.c rfl)))) ((sb hr).b (.t (by simpa using hb) ((sga hr).b (.c rfl)))) (Cg (by omega))
 ·exact .no ((ib hr).b (.f (by simpa using hb) (.c rfl))) ((sb hr).b (.f (by simpa using hb) (.c rfl)))
theorem H6 (a b:Int):mx a b=if a<=b then b else a:=by unfold mx;split<;>split<;>omega
theorem VY (hr:Ag l):Num (λk=>EC.f k l) (λk=>EI.f k l):=by
 unfold EC.f EI.f;have h9:=hr.2;by_cases hb:AM l
 ·by_cases h2:(l.length:Int)<2
  ·exact .no ((ib hr).b (.t (by simpa using hb) (.t h2 (.c rfl)))) ((sb hr).b (.t (by simpa using hb) (.t h2 (.c rfl))))
  ·by_cases h8:(l.length:Int)>8
   ·exact .no ((ib hr).b (.t (by simpa using hb) (.f h2 (.t h8 (.c rfl))))) ((sb hr).b (.t (by simpa using hb) (.f h2 (.o (.c rfl)))))
   ·refine .yes (n:=mx 1 (wrap64 (1-gapOf l))) ((ib hr).b (.t (by simpa using hb) (.f h2 (.f h8 ((iga hr).b (.c rfl)))))) ((sb hr).b (.t (by simpa using hb) (.f h2 (.n ((sga hr).b (.c ?_)))))) ?_
    ·have h1:=hr.1 _ (Wk (show l.length-1<l.length by omega));have h3:=Me l hr.1 (l.length-1) (by omega);have:=FJ hr;rw [Wo];unfold gapOf;rw [B9 (by omega),H6,BI (by omega) (by omega)];split<;>omega
    ·have:=Gq hr;rw [H6,BI (by omega) (by omega)];split<;>exact Cg (by omega)
 ·exact .no ((ib hr).b (.f (by simpa using hb) (.c rfl))) ((sb hr).b (.f (by simpa using hb) (.c rfl)))
theorem Uu (hr:Ag l):∀ n:Nat,n<=l.length->∃ m:Nat,m<=n/\Ev (λk=>BM.l0 k l (n:Int)) ((m:Int),true)/\Ev (λk=>CB.l0 k l (n:Int)) (m:Int):=by
 intro n
 induction n with
 | zero=>
  intro _;refine ⟨0,Wn _,.s ?_,.s ?_⟩
  ·simp only [BM.l0];exact .n (.c rfl)
  ·simp only [CB.l0]
   exact .n (.c rfl)
 | succ n ih=>
  intro hn;have h9:=hr.2;by_cases h3:3<=n+1
  ·have ht:=Kz hr (show 1<=n+1 by omega) hn;have hl3:3<=(l.take (n+1)).length:=by rw [IT];omega
   have hi:Ev (λk=>CI.f k (l.take (n+1))) (decide (gapOf (l.take (n+1))>0)):=⟨_,F7 _ ht hl3⟩
   have hs:Ev (λk=>CW.f k (l.take (n+1))) (decide (gapOf (l.take (n+1))>0)):=⟨_,Gb _ ht hl3⟩
   obtain ⟨m,h1,h2,h4⟩:=ih (by omega);have hw:wrap64 (((n+1:Nat):Int)-1)=(n:Int):=by unfold wrap64;omega
   by_cases hg:gapOf (l.take (n+1))>0
   ·refine ⟨n+1,Wn _,.s ?_,.s ?_⟩
    ·simp only [BM.l0];exact .o (.o (.o (hi.b (.t (by simpa using hg) (.c rfl)))))
    ·simp only [CB.l0];exact .o (.o (.o (hs.b (.t (by simpa using hg) (.c rfl)))))
   ·refine ⟨m,by omega,.s ?_,.s ?_⟩
    ·simp only [BM.l0];rw [hw];exact .o (.o (.o (hi.b (.f (by simpa using hg) h2))))
    ·simp only [CB.l0];rw [hw];exact .o (.o (.o (hs.b (.f (by simpa using hg) h4))))
  ·refine ⟨0,by omega,.s ?_,.s ?_⟩
   ·simp only [BM.l0];exact .n (.c rfl)
   ·simp only [CB.l0];exact .n (.c rfl)
theorem Ra (hr:Ag l) (hb:AM l):∃ m:Nat,m<=l.length/\Ev (λk=>BM.f k l) ((m:Int),true)/\Ev (λk=>CB.f k l) (m:Int):=by
 obtain ⟨m,h1,h2,h3⟩:=Uu hr l.length (Wn _);exact ⟨m,h1,by unfold BM.f;exact (ib hr).b (.t (by simpa using hb) h2),h3⟩
theorem Rb (hr:Ag l) (hb:¬ AM l):Ev (λk=>BM.f k l) (0,false):=by
 unfold BM.f;exact (ib hr).b (.f (by simpa using hb) (.c rfl))
theorem U0 (hr:Ag l):Num (λk=>BM.f k l) (λk=>Em.f k l):=by
 unfold Em.f;by_cases hb:AM l
 ·obtain ⟨m,h1,h2,h3⟩:=Ra hr hb;have:=hr.2;exact .yes h2 ((sb hr).b (.t (by simpa using hb) (h3.b (.c rfl)))) (Cg (by omega))
 ·exact .no (Rb hr hb) ((sb hr).b (.f (by simpa using hb) (.c rfl)))
theorem Lm (hr:Ag l):∀ x∈l,big x:=λx hx=>Cg (by have:=hr.1 x hx;omega)
theorem Gc (h0:0<l.length) (h1:l.length<1000):Ev (λk=>Aj.f k l) l:=by
 unfold Aj.f;exact .t h0 (.t h1 (.c (by rw [Ws])))
theorem Tw (hr:Ag l):Lst (λk=>D5.f k l) (λk=>D9.f k l):=by
 unfold D5.f D9.f;have h9:=hr.2;by_cases hb:AM l
 ·obtain ⟨m,h1,h2,h3⟩:=Ra hr hb;by_cases h0:(m:Int)=0
  ·exact .no (h2.b (.t rfl (.t h0 (.c rfl)))) ((sb hr).b (.t (by simpa using hb) (h3.b (.t h0 (.c rfl)))))
  ·have ht:(l.take m).length=m:=by rw [IT];omega
   refine .yes (n:=l.take m) (h2.b (.t rfl (.f h0 (.t (by simp only;omega) (.t (by simp only;omega) ((Gc (by rw [Rr];omega) (by rw [Rr];omega)).b (.c (by rw [Rr])))))))) ((sb hr).b (.t (by simpa using hb) (h3.b (.f h0 (.b (.c rfl) (h3.b (.o (.o (.t (by rw [Rr,ht,IS];omega) (.c (by rw [Rr,Ws])))))))))))
    (λx hx=>Lm hr x (List.mem_of_mem_take hx)) (by omega)
 ·exact .no ((Rb hr hb).b (.f (by simp) (.c rfl))) ((sb hr).b (.f (by simpa using hb) (.c rfl)))
end

end U
namespace U
def Prs (F G:Nat->Option (Int×Int×Bool)):Prop:=∃ a b c d ok,Ev F (a,b,ok)/\Ev G (c,d,ok)/\(ok=true->a=c/\b=d/\big a/\big b)
section
variable {l:List Int}
def triP (l:List Int):Prop:=l.length=3/\AM l/\rd l 2<rd l 0+rd l 1
instance (l:List Int):Decidable (triP l):=by unfold triP;infer_instance
theorem KA (hb:AM l) (h3:l.length=3):∃ x y z,l=[x,y,z]/\1<=x/\x<=y/\y<=z/\z<=60:=by
 match l,h3,hb with
 | [x,y,z],_,hb=>
  have h1:=hb.1.1 x (by simp);have h2:=hb.1.1 z (by simp);have h4:=hb.2 1 (by simp) (by omega);have h5:=hb.2 2 (by simp) (by omega);refine ⟨x,y,z,rfl,h1.1,?_,?_,h2.2⟩
  ·exact h4
  ·exact h5
theorem itri (hr:Ag l):Ev (λk=>BT.f k l) (decide (triP l)):=by
 unfold BT.f;by_cases h3:l.length=3
 ·by_cases hb:AM l
  ·refine .o ((ib hr).b (.t (by simpa using hb) (.o (.o (.o (.c ?_))))));obtain ⟨x,y,z,rfl,h1,h2,h4,h5⟩:=KA hb h3;have e0:rd [x,y,z] 0=x:=rfl;have e1:rd [x,y,z] 1=y:=rfl;have e2:rd [x,y,z] 2=z:=rfl;rw [e0,e1,e2,BI (by omega) (by omega)];congr 1;exact decide_eq_decide.mpr ⟨λh=>⟨h3,hb,h⟩,λh=>h.2.2⟩
  ·exact (Ev.o ((ib hr).b (.f (by simpa using hb) (.c rfl)))).r (Wp λh=>hb h.2.1).symm
 ·exact (Ev.n (.c rfl)).r (Wp λh=>h3 h.1).symm
theorem stri (hr:Ag l):Ev (λk=>Ec.f k l) (decide (triP l)):=by
 unfold Ec.f;by_cases h3:l.length=3
 ·by_cases hb:AM l
  ·refine .o ((sb hr).b (.t (by simpa using hb) (.o (.o (.o (.c ?_))))));obtain ⟨x,y,z,rfl,h1,h2,h4,h5⟩:=KA hb h3;have e0:rd [x,y,z] 0=x:=rfl;have e1:rd [x,y,z] 1=y:=rfl;have e2:rd [x,y,z] 2=z:=rfl;unfold Ca.f;rw [e0,e1,e2,BI (by omega) (by omega),BI (by omega) (by omega),BI (by omega) (by omega),if_pos (by omega),if_pos (by omega),AI];congr 1;exact decide_eq_decide.mpr ⟨λh=>⟨h3,hb,h⟩,λh=>h.2.2⟩
  ·exact (Ev.o ((sb hr).b (.f (by simpa using hb) (.c rfl)))).r (Wp λh=>hb h.2.1).symm
 ·exact (Ev.n (.c rfl)).r (Wp λh=>h3 h.1).symm
theorem Ry {x:Int} (h:1<=x/\x<=60):1<=x*x/\x*x<=3600:=
 ⟨Int.mul_le_mul h.1 h.1 (by omega) (by omega),Int.mul_le_mul h.2 h.2 (by omega) (by omega)⟩
theorem UY (hr:Ag l):Txt (λk=>EF.f k l) (λk=>EM.f k l):=by
 unfold EF.f EM.f;by_cases ht:triP l
 ·obtain ⟨x,y,z,rfl,h1,h2,h4,h5⟩:=KA ht.2.1 ht.1;have e0:rd [x,y,z] 0=x:=rfl;have e1:rd [x,y,z] 1=y:=rfl;have e2:rd [x,y,z] 2=z:=rfl;have sx:=Ry (x:=x) (by omega);have sy:=Ry (x:=y) (by omega);have sz:=Ry (x:=z) (by omega);rw [e0,e1,e2];generalize x*x=p at *;generalize y*y=q at *;generalize z*z=r at *;rw [BI (x:=p) (by omega) (by omega),BI (x:=q) (by omega) (by omega),BI (x:=r) (by omega) (by omega),BI (x:=r-p) (by omega) (by omega),BI (x:=r-p-q) (by omega) (by omega),BI (x:=p+q) (by omega) (by omega),BI (x:=p+q-r) (by omega) (by omega)];have g:∀ {α:Type} {n:Int} {f g:Nat->Option α} {v:α},n<((([x,y,z]:List Int).length:Nat):Int)->Ev f v->Ev (λk=>if n<((([x,y,z]:List Int).length:Nat):Int) then f k else g k) v:=λh h2=>.t h h2;by_cases c1:r-p-q<0
  ·exact .yes (n:=⟨#[97]⟩) ((itri hr).b (.t (by simpa using ht) (.t (by simp) (.t (by simp) (.t (by simp) (.t c1 (.c rfl))))))) ((stri hr).b (.t (by simpa using ht) (.t (by simp) (.t (by simp) (.t (by simp) (.o (.c rfl))))))) (by decide)
  ·by_cases c2:r-p-q=0
   ·exact .yes (n:=⟨#[114]⟩) ((itri hr).b (.t (by simpa using ht) (.t (by simp) (.t (by simp) (.t (by simp) (.f c1 (.t c2 (.c rfl)))))))) ((stri hr).b (.t (by simpa using ht) (.t (by simp) (.t (by simp) (.t (by simp) (.n (.o (.c rfl)))))))) (by decide)
   ·exact .yes (n:=⟨#[111]⟩) ((itri hr).b (.t (by simpa using ht) (.t (by simp) (.t (by simp) (.t (by simp) (.f c1 (.f c2 (.c rfl)))))))) ((stri hr).b (.t (by simpa using ht) (.t (by simp) (.t (by simp) (.t (by simp) (.n (.n (.c rfl)))))))) (by decide)
 ·exact .no ((itri hr).b (.f (by simpa using ht) (.c rfl))) ((stri hr).b (.f (by simpa using ht) (.c rfl)))
theorem US (hr:Ag l):Num (λk=>CY.f k l) (λk=>EK.f k l):=by
 unfold CY.f EK.f Ex.f;by_cases ht:triP l
 ·have h3:=ht.1;exact .yes ((itri hr).b (.t (by simpa using ht) (.o (.o (.o (.c rfl)))))) ((stri hr).b (.t (by simpa using ht) (.o (.o (.o (.c rfl)))))) (Fw _)
 ·exact .no ((itri hr).b (.f (by simpa using ht) (.c rfl))) ((stri hr).b (.f (by simpa using ht) (.c rfl)))
theorem UW (hr:Ag l):Lst (λk=>EE.f k l) (λk=>EL.f k l):=by
 unfold EE.f EL.f;have hs:=FJ hr;by_cases ht:triP l
 ·have h3:=ht.1;have e:Int.tmod l.sum 2=l.sum % 2:=Int.tmod_eq_emod_of_nonneg (by omega);by_cases h2:l.sum % 2=0
  ·refine .yes ((itri hr).b (.t (by simpa using ht) ((isu hr).b (.o ((isu hr).b (.o (.o (.o (.c rfl)))))))))
    ((stri hr).b (.t (by simpa using ht) ((ssu hr).b (.n ((ssu hr).b (.o (.o (.o (.c rfl))))))))) ?_ (by simp)
   intro x hx;simp only [Wy,List.not_mem_nil,or_false] at hx;rcases hx with rfl | rfl | rfl<;>exact Fw _
  ·exact .no ((itri hr).b (.t (by simpa using ht) ((isu hr).b (.n (.c rfl))))) ((stri hr).b (.t (by simpa using ht) ((ssu hr).b (.o (.c rfl)))))
 ·exact .no ((itri hr).b (.f (by simpa using ht) (.c rfl))) ((stri hr).b (.f (by simpa using ht) (.c rfl)))
theorem L2 (hr:Ag l) (hb:AM l):Ev (λk=>Cj.f k l) (mx 0 (-gapOf l),l.sum,true):=by
 unfold Cj.f;have:=Gq hr;exact (ib hr).b (.t (by simpa using hb) ((iga hr).b ((isu hr).b (.c (by rw [BI (by omega) (by omega)])))))
theorem OQ (hr:Ag l) (hb:¬ AM l):Ev (λk=>Cj.f k l) (0,0,false):=by
 unfold Cj.f;exact (ib hr).b (.f (by simpa using hb) (.c rfl))
theorem L4 (hr:Ag l):Ev (λk=>Dx.f k l) (mx 0 (-gapOf l),l.sum):=by
 unfold Dx.f;have:=Gq hr;have hs:=FJ hr;have h9:=hr.2;refine (ssu hr).b (.t (by rw [Eu (by omega) (by omega)];omega) (.t (by rw [Eu (by omega) (by omega)];omega) (.c ?_)));have h2:=hr.1 _ (Wk (show l.length-1<l.length by omega));unfold gapOf;rw [Eu (by omega) (by omega),B9 (show l.length-1<l.length by omega),BI (x:=2*_) (by omega) (by omega),BI (by omega) (by omega)];congr 3;omega
theorem TA (hr:Ag l):Prs (λk=>Cj.f k l) (λk=>DT.f k l):=by
 unfold DT.f;have:=Gq hr;have hs:=FJ hr;by_cases hb:AM l
 ·exact ⟨_,_,_,_,true,L2 hr hb,(sb hr).b (.t (by simpa using hb) ((L4 hr).b (.c rfl))),λ_=>⟨rfl,rfl,by rw [H6];split<;>exact Cg (by omega),Cg (by omega)⟩⟩
 ·exact ⟨_,_,_,_,false,OQ hr hb,(sb hr).b (.f (by simpa using hb) (.c rfl)),λh=>by cases h⟩
theorem UX (hr:Ag l):Num (λk=>D2.f k l) (λk=>D8.f k l):=by
 unfold D2.f D8.f;have:=Gq hr;by_cases hb:AM l
 ·exact .yes ((L2 hr hb).b (.t rfl (.c rfl))) ((sb hr).b (.t (by simpa using hb) ((L4 hr).b (.c rfl)))) (by rw [H6,H6];split<;>split<;>exact Cg (by omega))
 ·exact .no ((OQ hr hb).b (.f (by simp) (.c rfl))) ((sb hr).b (.f (by simpa using hb) (.c rfl)))
theorem VT (hr:Ag l) (hb:AM l) {d:Int} (hd:0<=d):Ev (λk=>EB.f k l d) (decide (mx 0 (-gapOf l)<=d/\d<=l.sum)):=by
 unfold EB.f;refine (L2 hr hb).b (.t rfl (.t hd ?_));by_cases h:d>=mx 0 (-gapOf l)
 ·exact .t h (.c (by congr 1;exact decide_eq_decide.mpr ⟨λx=>⟨h,x⟩,λx=>x.2⟩))
 ·exact .f h (.c (by rw [Wp λx=>h x.1]))
theorem VU (hr:Ag l) {d:Int}:Ev (λk=>Fs.f k l d) (decide (mx 0 (-gapOf l)<=d/\d<=l.sum)):=by
 unfold Fs.f;refine (L4 hr).b ?_;by_cases h:mx 0 (-gapOf l)<=d
 ·exact .t h (.c (by congr 1;exact decide_eq_decide.mpr ⟨λx=>⟨h,x⟩,λx=>x.2⟩))
 ·exact .f h (.c (by rw [Wp λx=>h x.1]))
theorem Sq (hb:AM l) {d:Int} (hd:0<=d):∀ n:Nat,n<=l.length->Num (λk=>Bn.l0 k l d (n:Int)) (λk=>Bc.l0 k l d (n:Int)):=by
 have h9:=hb.1.2;intro n
 induction n with
 | zero=>
  intro _;refine .no (n:=0) (m:=0) (.s ?_) (.s ?_)
  ·simp only [Bn.l0];exact .n (.c rfl)
  ·simp only [Bc.l0]
   exact .n (.c rfl)
 | succ n ih=>
  intro hn;have ht:=Nc hb (show 1<=n+1 by omega) hn;have hw:wrap64 (((n+1:Nat):Int)-1)=(n:Int):=by unfold wrap64;omega
  by_cases hg:mx 0 (-gapOf (l.take (n+1)))<=d/\d<=(l.take (n+1)).sum
  ·refine .yes (n:=((n+1:Nat):Int)) (.s ?_) (.s ?_) (Cg (by omega))
   ·simp only [Bn.l0];exact .o (.o (.o ((VT ht.1 ht hd).b (.t (by simpa using hg) (.c rfl)))))
   ·simp only [Bc.l0];exact .o (.o (.o ((VU ht.1).b (.t (by simpa using hg) (.c rfl)))))
  ·obtain ⟨a,b,ok,h1,h2,h3⟩:=ih (by omega);refine ⟨a,b,ok,.s ?_,.s ?_,h3⟩
   ·simp only [Bn.l0];rw [hw];exact .o (.o (.o ((VT ht.1 ht hd).b (.f (by simpa using hg) h1))))
   ·simp only [Bc.l0];rw [hw];exact .o (.o (.o ((VU ht.1).b (.f (by simpa using hg) h2))))
theorem Tt (hr:Ag l) (d:Int):Num (λk=>Bn.f k l d) (λk=>Bc.f k l d):=by
 unfold Bn.f Bc.f;have nj:Ev (λk=>Bn.j0 k l d true) (0,false):=.s (by simp only [Bn.j0];exact .t trivial (.c rfl));have mj:Ev (λk=>Bc.j0 k l d true) (0,false):=.s (by simp only [Bc.j0];exact .t trivial (.c rfl));by_cases hb:AM l
 ·by_cases h0:d<0
  ·exact .no ((ib hr).b (.t (by simpa using hb) (.t h0 nj))) ((sb hr).b (.t (by simpa using hb) (.b (.c (Dv d 0 1000)) (by rw [Wp (by omega)];exact mj))))
  ·by_cases h1:d>1000
   ·exact .no ((ib hr).b (.t (by simpa using hb) (.f h0 (by rw [Wo h1];exact nj)))) ((sb hr).b (.t (by simpa using hb) (.b (.c (Dv d 0 1000)) (by rw [Wp (by omega)];exact mj))))
   ·obtain ⟨a,b,ok,g1,g2,g3⟩:=Sq hb (by omega:0<=d) l.length (Wn _);refine ⟨a,b,ok,(ib hr).b (.t (by simpa using hb) (.f h0 ?_)),(sb hr).b (.t (by simpa using hb) (.b (.c (Dv d 0 1000)) ?_)),g3⟩
    ·rw [Wp h1];refine .s ?_;simp only [Bn.j0];exact .f (by simp) g1
    ·rw [Wo (by omega)];refine .s ?_;simp only [Bc.j0];exact .f (by simp) g2
 ·exact .no ((ib hr).b (.f (by simpa using hb) nj)) ((sb hr).b (.f (by simpa using hb) mj))
end

end U
namespace U
def trZ (n x y z d:Nat):List (Nat×Nat×Nat):=(List.range' z d).map λz=>(x,y,z)
def trY (n x y d:Nat):List (Nat×Nat×Nat):=(List.range' y d).flatMap λy=>trZ n x y (y+1) (n-(y+1))
def trX (n x d:Nat):List (Nat×Nat×Nat):=(List.range' x d).flatMap λx=>trY n x (x+1) (n-(x+1))
def Eo (n:Nat):List (Nat×Nat×Nat):=trX n 0 n
theorem ET {n:Nat} {t:Nat×Nat×Nat}:t∈Eo n↔t.1<t.2.1/\t.2.1<t.2.2/\t.2.2<n:=by
 obtain ⟨x,y,z⟩:=t;unfold Eo trX trY trZ;simp only [List.mem_flatMap,List.mem_map,List.mem_range'_1,If];constructor
 ·rintro ⟨a,h1,b,h2,c,h3,rfl,rfl,rfl⟩;omega
 ·intro h;exact ⟨x,by omega,y,by omega,z,by omega,rfl,rfl,rfl⟩
section
variable {S:Type} (step:S->Int->Int->Int->Option S) (g:S->Nat×Nat×Nat->S) (a:List Int)
theorem SZ (ha:a.length<=1000) (hst:∀ s (x y z:Nat),x<y->y<z->z<a.length->step s (x:Int) (y:Int) (z:Int)=some (g s (x,y,z))) (x y:Nat) (hxy:x<y):∀ (d k z:Nat) (s:S),z+d=a.length->y<z->d+1<=k->Be.lz step k a (x:Int) (y:Int) (z:Int) s=some ((trZ a.length x y z d).foldl g s):=by
 intro d
 induction d with
 | zero=>
  intro k z s hz hy hk
  obtain ⟨m,rfl⟩:∃ m,k=m+1:=⟨k-1,by omega⟩
  rw [Be.lz,if_neg (by omega)]
  rfl
 | succ d ih=>
  intro k z s hz hy hk
  obtain ⟨m,rfl⟩:∃ m,k=m+1:=⟨k-1,by omega⟩
  rw [Be.lz,if_pos (by omega),hst s x y z hxy hy (by omega),AI,At (by omega),ih m (z+1) _ (by omega) (by omega) (by omega)];unfold trZ;rw [Wu,Wz,Wt]
theorem SY (ha:a.length<=1000) (hst:∀ s (x y z:Nat),x<y->y<z->z<a.length->step s (x:Int) (y:Int) (z:Int)=some (g s (x,y,z))) (x:Nat):∀ (d k y:Nat) (s:S),y+d=a.length->x<y->a.length+d+3<=k->Be.ly step k a (x:Int) (y:Int) s=some ((trY a.length x y d).foldl g s):=by
 intro d
 induction d with
 | zero=>
  intro k y s hy hx hk
  obtain ⟨m,rfl⟩:∃ m,k=m+1:=⟨k-1,by omega⟩
  rw [Be.ly,if_neg (by omega)]
  rfl
 | succ d ih=>
  intro k y s hy hx hk
  obtain ⟨m,rfl⟩:∃ m,k=m+1:=⟨k-1,by omega⟩
  rw [Be.ly,if_pos (by omega),At (by omega),SZ step g a ha hst x y hx (a.length-(y+1)) m (y+1) s (by omega) (by omega) (by omega),AI,ih m (y+1) _ (by omega) (by omega) (by omega)];unfold trY;rw [Wu,WD,List.foldl_append]
theorem SX (ha:a.length<=1000) (hst:∀ s (x y z:Nat),x<y->y<z->z<a.length->step s (x:Int) (y:Int) (z:Int)=some (g s (x,y,z))):∀ (d k x:Nat) (s:S),x+d=a.length->2*a.length+d+5<=k->Be.lx step k a (x:Int) s=some ((trX a.length x d).foldl g s):=by
 intro d
 induction d with
 | zero=>
  intro k x s hx hk
  obtain ⟨m,rfl⟩:∃ m,k=m+1:=⟨k-1,by omega⟩
  rw [Be.lx,if_neg (by omega)]
  rfl
 | succ d ih=>
  intro k x s hx hk
  obtain ⟨m,rfl⟩:∃ m,k=m+1:=⟨k-1,by omega⟩
  rw [Be.lx,if_pos (by omega),At (by omega),SY step g a ha hst x (a.length-(x+1)) m (x+1) s (by omega) (by omega) (by omega),AI,ih m (x+1) _ (by omega) (by omega)];unfold trX;rw [Wu,WD,List.foldl_append]
theorem JI (ha:a.length<=1000) (hst:∀ s (x y z:Nat),x<y->y<z->z<a.length->step s (x:Int) (y:Int) (z:Int)=some (g s (x,y,z))) (k:Nat) (hk:3*a.length+5<=k) (s:S):Be.f step k a s=some ((Eo a.length).foldl g s):=
 SX step g a ha hst a.length k 0 s (by omega) (by omega)
end
def triOf (a:List Int) (t:Nat×Nat×Nat):Bool:=decide (rd a (t.2.2:Int)<rd a (t.1:Int)+rd a (t.2.1:Int))
def sumT (a:List Int) (t:Nat×Nat×Nat):Int:=rd a (t.1:Int)+rd a (t.2.1:Int)+rd a (t.2.2:Int)
theorem LH {a:List Int} (h:asc a):∀ (d i:Nat),i+d<a.length->rd a (i:Int)<=rd a ((i+d:Nat):Int)
 | 0,i,_=>Int.le_refl _
 | d+1,i,hd=>by
  have h1:=LH h d i (by omega);have h2:=h (i+d+1) (by omega) (by omega);rw [show i+d+1-1=i+d by omega] at h2;rw [show i+(d+1)=i+d+1 by omega];omega
end U
namespace U
theorem I3 {α:Type} (c:α->Bool) (f:α->Int):∀ (ls:List α) (s:Int),ls.foldl (λs t=>if c t=true then mx s (f t) else s) s=(ls.filter c).foldl (λs t=>mx s (f t)) s
 | [],_=>rfl
 | x::ls,s=>by
  rw [Wt,List.filter_cons];by_cases h:c x=true
  ·rw [if_pos h,if_pos h,Wt];exact I3 c f ls _
  ·rw [if_neg h,if_neg h];exact I3 c f ls _
def Fa (a:List Int):Int:=((Eo a.length).filter (triOf a)).foldl (λs t=>mx s (sumT a t)) 0
theorem P6 (l:List Int) (hl:l.length<=1048576):∃ K,∀ k,K<=k->AG.f k l=some (if AM l then (Fa l,decide (Fa l>0)) else (0,false)):=by
 by_cases hb:AM l
 ·have h9:=hb.1.2.2;refine ⟨l.length+100,λk hk=>?_⟩;unfold AG.f;rw [DZ l hl k (by omega),Wo hb,AI,if_pos rfl,JI (AG.step l) (λs t=>if triOf l t=true then mx s (sumT l t) else s) l (by omega) (λs x y z hxy hyz hz=>?_) k (by omega) 0,AI,I3,if_pos hb]
  ·rfl
  ·have hx:=hb.1.1 _ (Wk (show x<l.length by omega));have hy:=hb.1.1 _ (Wk (show y<l.length by omega));have hz2:=hb.1.1 _ (Wk (show z<l.length by omega));unfold AG.step triOf sumT;simp only;rw [if_pos (by omega),if_pos (by omega),if_pos (by omega),if_pos (by omega),if_pos (by omega),if_pos (by omega),B9 (show x<l.length by omega),B9 (show y<l.length by omega),B9 hz];generalize l[x]=p at hx;generalize l[y]=q at hy;generalize l[z]=r at hz2;rw [show wrap64 (p+q)=p+q by unfold wrap64;omega,show wrap64 (p+q+r)=p+q+r by unfold wrap64;omega];by_cases h:r<p+q
   ·rw [if_pos h,Wo h,if_pos rfl]
   ·rw [if_neg h,Wp h,if_neg (by decide)]
 ·refine ⟨l.length+100,λk hk=>?_⟩;unfold AG.f;rw [DZ l hl k (by omega),Wp hb,AI,if_neg (by decide),if_neg hb]
theorem Ju {α:Type} (f:α->Int):∀ (ls:List α) (n:Int) (x:α),x∈ls->f x<=ls.foldl (λs x=>mx s (f x)) n
 | [],_,_,h=>by cases h
 | y::ls,n,x,h=>by
  rw [Wt];rcases Wy.mp h with rfl | h
  ·have h1:=(Kk n (f x)).2.1
   have h2:∀ (ls:List α) (n:Int),n<=ls.foldl (λs x=>mx s (f x)) n:=by
    intro ls
    induction ls with
    | nil=>intro n;exact Int.le_refl _
    | cons z ls ih=>
     intro n;rw [Wt];exact WB (Kk n (f z)).1 (ih _)
   exact WB h1 (h2 ls _)
  ·exact Ju f ls _ x h

end U
namespace U
def trS (n:Nat):List (Nat×Nat×Nat):=(List.range' 0 n).flatMap λi=>(List.range' 0 i).flatMap λj=>(List.range' 0 j).map λq=>(q,j,i)
theorem Tr:∀ n:Nat,n<10->(Eo n).Perm (trS n):=by decide +kernel
def addT (l:List Int) (s:Int) (t:Nat×Nat×Nat):Int:=if triOf l t=true then wrap64 (s+1) else s
theorem Pm (l:List Int) {n:Nat} (h:n<10) (s:Int):(Eo n).foldl (addT l) s=(trS n).foldl (addT l) s:=
 (Tr n h).foldl_eq' (λx _ y _ z=>by unfold addT;split<;>split<;>rfl) s
section
variable {l:List Int}
theorem Q8 (hr:Ag l) (hb:AM l):Ev (λk=>AQ.f k l) ((Eo l.length).foldl (addT l) 0,true):=by
 have h9:=hr.2;refine ⟨l.length+100,λk hk=>?_⟩;unfold AQ.f;simp only;rw [DZ l (by omega) k (by omega),Wo hb,AI,if_pos rfl,JI (AQ.step l) (addT l) l (by omega) (λs x y z hxy hyz hz=>?_) k (by omega) 0,AI];have hx:=hr.1 _ (Wk (show x<l.length by omega));have hy:=hr.1 _ (Wk (show y<l.length by omega));unfold AQ.step addT triOf;simp only;rw [if_pos (by omega),if_pos (by omega),if_pos (by omega),if_pos (by omega),if_pos (by omega),if_pos (by omega),B9 (show x<l.length by omega),B9 (show y<l.length by omega),B9 hz];generalize l[x]=p at hx;generalize l[y]=q at hy;rw [show wrap64 (p+q)=p+q by unfold wrap64;omega];by_cases h:l[z]<p+q
 ·rw [if_pos h,Wo h,if_pos rfl]
 ·rw [if_neg h,Wp h,if_neg (by decide)]
theorem OR (hb:AM l) {i j q:Nat} (h1:q<j) (h2:j<i) (h3:i<l.length):Ca.f (rd l (i:Int)) (rd l (j:Int)) (rd l (q:Int))=some (triOf l (q,j,i)):=by
 have g1:=LH hb.2 (j-q) q (by omega);have g2:=LH hb.2 (i-j) j (by omega);rw [show q+(j-q)=j by omega] at g1;rw [show j+(i-j)=i by omega] at g2;have hx:=hb.1.1 _ (Wk (show q<l.length by omega));have hz:=hb.1.1 _ (Wk h3);rw [<- B9 (show q<l.length by omega)] at hx;rw [<- B9 h3] at hz;unfold Ca.f triOf;simp only;generalize rd l (q:Int)=x at *;generalize rd l (j:Int)=y at *;generalize rd l (i:Int)=z at *;rw [BI (by omega) (by omega),BI (by omega) (by omega),BI (by omega) (by omega)];by_cases h:z<y+x
 ·rw [if_pos h,if_pos (by omega),Wo (by omega),Wo (by omega)]
 ·rw [if_neg h,Wp (by omega)]
theorem S4 (hb:AM l) {i j:Nat} (hj:j<i) (hi:i<l.length) {v:Int}:∀ (d q:Nat) (c:Int),q+d=j->Ev (λk=>Bf.l1 k l (((List.range' q d).map λq=>(q,j,i)).foldl (addT l) c) (i:Int) ((j+1:Nat):Int)) v->Ev (λk=>Bf.l2 k l c (i:Int) (j:Int) (q:Int)) v:=by
 have h9:=hb.1.2;intro d
 induction d with
 | zero=>
  intro q c hq h;refine .s ?_;simp only [Bf.l2];rw [At (n:=j) (by omega)];rw [List.range'_zero,List.map_nil,List.foldl_nil] at h
  exact .n h
 | succ d ih=>
  intro q c hq h;rw [Wu,Wz,Wt] at h;have:=ih (q+1) _ (by omega) h;refine .s ?_;simp only [Bf.l2];rw [At (n:=q) (by omega)];refine .o (.o (.o (.o (.o (.o (.o (.b (.c (OR hb (by omega) hj hi)) ?_)))))));unfold addT at this;by_cases ht:triOf l (q,j,i)=true
  ·rw [if_pos ht] at this;exact .t ht this
  ·rw [if_neg ht] at this;exact .f ht this
theorem S3 (hb:AM l) {i:Nat} (hi:i<l.length) {v:Int}:∀ (d j:Nat) (c:Int),j+d=i->Ev (λk=>Bf.l0 k l (((List.range' j d).flatMap λj=>(List.range' 0 j).map λq=>(q,j,i)).foldl (addT l) c) ((i+1:Nat):Int)) v->Ev (λk=>Bf.l1 k l c (i:Int) (j:Int)) v:=by
 have h9:=hb.1.2;intro d
 induction d with
 | zero=>
  intro j c hj h;refine .s ?_;simp only [Bf.l1];rw [At (n:=i) (by omega)];rw [List.range'_zero,List.flatMap_nil,List.foldl_nil] at h
  exact .n h
 | succ d ih=>
  intro j c hj h;rw [Wu,WD,List.foldl_append] at h;refine .s ?_;simp only [Bf.l1];exact .o (S4 hb (by omega) hi j 0 c (by omega) (ih (j+1) _ (by omega) h))
theorem S0 (hb:AM l):∀ (d i:Nat) (c:Int),i+d=l.length->Ev (λk=>Bf.l0 k l c (i:Int)) (((List.range' i d).flatMap λi=>(List.range' 0 i).flatMap λj=>(List.range' 0 j).map λq=>(q,j,i)).foldl (addT l) c):=by
 have h9:=hb.1.2;intro d
 induction d with
 | zero=>
  intro i c hi;refine .s ?_;simp only [Bf.l0]
  exact .n (.c rfl)
 | succ d ih=>
  intro i c hi;rw [Wu,WD,List.foldl_append];refine .s ?_;simp only [Bf.l0];exact .o (S3 hb (by omega) i 0 c (by omega) (ih (i+1) _ (by omega)))
theorem Q9 (hb:AM l):Ev (λk=>Bf.f k l) ((Eo l.length).foldl (addT l) 0):=by
 rw [Pm l (by have:=hb.1.2;omega)];exact S0 hb l.length 0 0 (by omega)
theorem Ov (l:List Int):∀ (ts:List (Nat×Nat×Nat)) (c:Int),big c->big (ts.foldl (addT l) c)
 | [],_,h=>h
 | t::ts,c,h=>by
  rw [Wt];refine Ov l ts _ ?_;unfold addT;split
  ·exact Fw _
  ·exact h
theorem UZ (hr:Ag l):Num (λk=>AQ.f k l) (λk=>DP.f k l):=by
 by_cases hb:AM l
 ·refine .yes (Q8 hr hb) ?_ (Ov l _ 0 (Cg (by omega)));unfold DP.f;exact (sb hr).b (.t (by simpa using hb) ((Q9 hb).b (.c rfl)))
 ·refine .no (n:=0) (m:=0) ?_ ?_
  ·unfold AQ.f;exact (ib hr).b (.f (by simpa using hb) (.c rfl))
  ·unfold DP.f;exact (sb hr).b (.f (by simpa using hb) (.c rfl))
theorem Uh (hr:Ag l) (hb:AM l):Ev (λk=>DN.f k l) ((Eo l.length).foldl (addT l) 0==0):=by
 unfold DN.f;exact (Q8 hr hb).b (.t rfl (.c rfl))
theorem Ui (hr:Ag l) (hb:AM l):Ev (λk=>DO.f k l) ((Eo l.length).foldl (addT l) 0==0):=by
 unfold DO.f;exact (sb hr).b (.t (by simpa using hb) ((Q9 hb).b (.c rfl)))
theorem FR {α:Type} (f:α->Int) (B:Int):∀ (ls:List α) (n:Int),n<=B->(∀ x∈ls,f x<=B)->ls.foldl (λs x=>mx s (f x)) n<=B
 | [],_,h,_=>h
 | y::ls,n,h,hx=>by
  rw [Wt];refine FR f B ls _ ?_ λx h=>hx x (S2 _ h);have:=hx y TO;rw [H6];split<;>omega
theorem M0 (hb:AM l) {i j:Nat} (h:i<=j) (hj:j<l.length):rd l (i:Int)<=rd l (j:Int):=by
 have:=LH hb.2 (j-i) i (by omega);rw [show i+(j-i)=j by omega] at this;exact this
theorem U6 (hb:AM l):∀ n:Nat,n<l.length->(∀ t∈Eo l.length,triOf l t=true->t.2.2<=n)->Ev (λk=>Bg.l0 k l (n:Int)) (Fa l,decide (Fa l>0))\/Fa l=0/\Ev (λk=>Bg.l0 k l (n:Int)) (0,false):=by
 have h9:=hb.1.2;intro n
 induction n with
 | zero=>
  intro hn ht;refine .inr ⟨?_,.s ?_⟩
  ·have:(Eo l.length).filter (triOf l)=[]:=List.filter_eq_nil_iff.mpr λt h1 h2=>by
    have:=ht t h1 h2;have:=ET.mp h1;omega
   unfold Fa;rw [this];rfl
  ·simp only [Bg.l0]
   exact .n (.c rfl)
 | succ n ih=>
  intro hn ht
  match n,ih,hn,ht with
  | 0,ih,hn,ht=>
   refine .inr ⟨?_,.s ?_⟩
   ·have:(Eo l.length).filter (triOf l)=[]:=List.filter_eq_nil_iff.mpr λt h1 h2=>by
     have:=ht t h1 h2;have:=ET.mp h1;omega
    unfold Fa;rw [this];rfl
   ·simp only [Bg.l0]
    exact .n (.c rfl)
  | n+1,ih,hn,ht=>
   have w1:wrap64 (((n+1+1:Nat):Int)-1)=((n+1:Nat):Int):=by unfold wrap64;omega
   have w2:wrap64 (((n+1+1:Nat):Int)-2)=(n:Int):=by unfold wrap64;omega
   have h3:=OR hb (q:=n) (j:=n+1) (i:=n+1+1) (by omega) (by omega) hn;by_cases hT:triOf l (n,n+1,n+1+1)=true
   ·have e:Fa l=rd l ((n+1+1:Nat):Int)+rd l ((n+1:Nat):Int)+rd l (n:Int):=by
     have hm:(n,n+1,n+1+1)∈(Eo l.length).filter (triOf l):=List.mem_filter.mpr ⟨ET.mpr ⟨by simp,by simp,hn⟩,hT⟩;have g1:=Ju (sumT l) _ 0 _ hm;have hp:=hb.1.1 _ (Wk (show n<l.length by omega));have hq:=hb.1.1 _ (Wk (show n+1<l.length by omega));have hz:=hb.1.1 _ (Wk hn);rw [<- B9 (show n<l.length by omega)] at hp;rw [<- B9 (show n+1<l.length by omega)] at hq;rw [<- B9 hn] at hz
     have g2:Fa l<=rd l ((n+1+1:Nat):Int)+rd l ((n+1:Nat):Int)+rd l (n:Int):=by
      refine FR (sumT l) _ _ 0 (by omega) λt h=>?_;obtain ⟨m1,m2⟩:=List.mem_filter.mp h;have m3:=ET.mp m1;have m4:=ht t m1 m2;have a1:=M0 hb m4 hn;have a2:=M0 hb (i:=t.2.1) (j:=n+1) (by omega) (by omega);have a3:=M0 hb (i:=t.1) (j:=n) (by omega) (by omega);unfold sumT;omega
     unfold sumT at g1;simp only at g1;unfold Fa at g2 ⊢;unfold sumT at g2 ⊢;omega
    have hp:=hb.1.1 _ (Wk (show n<l.length by omega));have hq:=hb.1.1 _ (Wk (show n+1<l.length by omega));have hz:=hb.1.1 _ (Wk hn);rw [<- B9 (show n<l.length by omega)] at hp;rw [<- B9 (show n+1<l.length by omega)] at hq;rw [<- B9 hn] at hz;refine .inl (.s ?_);simp only [Bg.l0];rw [w1,w2,h3];refine .o (.o (.o (.o (.o (.o (.o (.b (.c rfl) (.t hT (.c ?_)))))))));rw [e,Wo (by omega),BI (x:=rd l ((n+1+1:Nat):Int)+rd l ((n+1:Nat):Int)) (by omega) (by omega),BI (by omega) (by omega)]
   ·have ht2:∀ t∈Eo l.length,triOf l t=true->t.2.2<=n+1:=λt m1 m2=>by
     have m3:=ET.mp m1;have m4:=ht t m1 m2;rcases Nat.lt_or_ge t.2.2 (n+1+1) with h | h
     ·omega
     ·exfalso;obtain ⟨x,y,z⟩:=t;simp only at m3 m4 h;obtain rfl:z=n+1+1:=by omega
      apply hT;have a2:=M0 hb (i:=y) (j:=n+1) (by omega) (by omega);have a3:=M0 hb (i:=x) (j:=n) (by omega) (by omega);unfold triOf at m2 ⊢;simp only [Wq] at m2 ⊢;omega
    have step:∀ v,Ev (λk=>Bg.l0 k l ((n+1:Nat):Int)) v->Ev (λk=>Bg.l0 k l ((n+1+1:Nat):Int)) v:=λv h=>by
     refine .s ?_;simp only [Bg.l0];rw [w1,w2,h3];exact .o (.o (.o (.o (.o (.o (.o (.b (.c rfl) (.f hT h))))))))
    rcases ih (by omega) ht2 with h | ⟨h0,h⟩
    ·exact .inl (step _ h)
    ·exact .inr ⟨h0,step _ h⟩
theorem RP (hr:Ag l):Num (λk=>AG.f k l) (λk=>Bg.f k l):=by
 have h9:=hr.2;have hi:Ev (λk=>AG.f k l) (if AM l then (Fa l,decide (Fa l>0)) else (0,false)):=P6 l (by omega);by_cases hb:AM l
 ·rw [if_pos hb] at hi
  have hs:Ev (λk=>Bg.f k l) (Fa l,decide (Fa l>0)):=by
   unfold Bg.f;refine (sb hr).b (.t (by simpa using hb) ?_);rw [Eu (by omega) (by omega)];rcases U6 hb (l.length-1) (by omega) (λt h _=>by have:=ET.mp h;omega) with h | ⟨h0,h⟩
   ·exact h
   ·rw [h0];exact h
  have hle:Fa l<=180:=FR (sumT l) _ _ 0 (by omega) λt h=>by
   have m3:=ET.mp (List.mem_filter.mp h).1;have hp:=hr.1 _ (Wk (show t.1<l.length by omega));have hq:=hr.1 _ (Wk (show t.2.1<l.length by omega));have hz:=hr.1 _ (Wk m3.2.2);unfold sumT;rw [B9 (show t.1<l.length by omega),B9 (show t.2.1<l.length by omega),B9 m3.2.2];omega
  exact ⟨_,_,_,hi,hs,λh=>⟨rfl,Cg (by have:=of_decide_eq_true h;omega)⟩⟩
 ·rw [if_neg hb] at hi;refine .no hi (m:=0) ?_;unfold Bg.f;exact (sb hr).b (.f (by simpa using hb) (.c rfl))
end

end U
namespace U
section
variable {l:List Int}
theorem ir (hr:Ag l):Ev (λk=>Am.f k l) true:=⟨_,λk hk=>(EG l (by have:=hr.2;omega) k hk).trans (by rw [Wo hr])⟩
theorem sr (hr:Ag l):Ev (λk=>Bj.f k l) true:=⟨_,λk hk=>(Gx l (by have:=hr.2;omega) k hk).trans (by rw [Wo hr])⟩
theorem Qz (hr:Ag l):Ev (λk=>Ba.f k l) (E7 l,true):=⟨2 ^ l.length+l.length+2,λk hk=>(Pf l (by have:=hr.2;omega) k (.inl hk)).trans (by rw [if_pos hr])⟩
theorem QA (hr:Ag l):Ev (λk=>BX.f k l) (E7 l,true):=⟨2 ^ l.length+l.length+600,λk hk=>(Pg l (by have:=hr.2;omega) k (.inl hk)).trans (by rw [if_pos hr])⟩
theorem UV (hr:Ag l):Lst (λk=>Ba.f k l) (λk=>BX.f k l):=
 ⟨_,_,true,Qz hr,QA hr,λ_=>⟨rfl,λx hx=>Cg (by have:=ends_in hr x hx;omega),by have:=MC hr;omega,by
  have h:=Gf [32] rfl 3 ((E7 l).map Lib.itoa) (λq hq=>by
   obtain ⟨m,hm,rfl⟩:=List.mem_map.mp hq;have:=ends_in hr m hm;have:=(Iv 2 3 m.toNat (by omega) (by omega) (by omega) (by omega)).2;unfold Lib.itoa;rw [if_neg (by omega)]
   exact this)
  rw [NO] at h;have:=Qy hr;unfold joinN
  omega⟩⟩
theorem U1 (hr:Ag l):Num (λk=>Eh.f k l) (λk=>Ek.f k l):=by
 unfold Eh.f Ek.f;have h:=MC hr;have h0:0<(E7 l).length:=by omega
 have hx:=ends_in hr _ (Wk h0);exact .yes ((Qz hr).b (.t rfl (.t (by simp only;omega) (.c rfl)))) ((QA hr).b (.t rfl (.t (by simp only;omega) (.c rfl)))) (by rw [show (0:Int)=((0:Nat):Int) from rfl,B9 h0];exact Cg (by omega))
theorem To (hr:Ag l):∀ (d m:Nat),m+d=2 ^ l.length->Ev (λk=>Ci.l0 k l ((cntR m (λm=>decide (finN l (bitsN l.length m)=0)):Nat):Int) (m:Int)) ((sgn l 0:Int),true):=by
 have h9:=pow9 hr;intro d
 induction d with
 | zero=>
  intro m hm;refine .s ?_;simp only [Ci.l0];rw [Fm hr];refine .n (.c ?_)
  rw [show m=2 ^ l.length by omega,FN]
 | succ d ih=>
  intro m hm
  have he:Ev (λk=>Cs.f k l (m:Int)) (steps l (bitsN l.length m) (0,0,0)):=⟨_,λk hk=>by
   have he:=ends5 l (bitsN l.length m) hr (Dn _ _) k hk;rw [Es _ _ (by omega)] at he
   exact he⟩
  have:=ih (m+1) (by omega);have hc:=Gp (λm=>decide (finN l (bitsN l.length m)=0)) m;refine .s ?_;simp only [Ci.l0];rw [Fm hr];refine .o (he.b ?_);rw [cntR] at this;rw [At (n:=m) (by omega),At (by omega),Jm];by_cases h:finN l (bitsN l.length m)=0
  ·simp only [h,decide_true,if_true] at this;exact .t (by simp only;omega) (by simpa using this)
  ·simp only [h,decide_false,if_false,Nat.add_zero,Bool.false_eq_true] at this;exact .f (by simp only;omega) this
theorem Tv (hr:Ag l):Num (λk=>Cw.f k l) (λk=>Ci.f k l):=by
 have h9:=pow9 hr
 have hs:Ev (λk=>Ci.f k l) ((sgn l 0:Int),true):=by
  unfold Ci.f;exact (sr hr).b (.t rfl (To hr (2 ^ l.length) 0 (by omega)))
 refine .yes ⟨_,Os l hr (by have:=hr.2;omega)⟩ hs (Cg ?_);have:=Gp (λm=>decide (finN l (bitsN l.length m)=0)) (2 ^ l.length);rw [FN] at this;omega
theorem U2 (hr:Ag l):Num (λk=>BW.f k l) (λk=>El.f k l):=by
 obtain ⟨b,f,hB⟩:=JM l (2 ^ l.length) (Nat.pos_of_ne_zero (by simp))
 have hi:Ev (λk=>BW.f k l) (b,true):=⟨l.length+600,λk hk=>by
  obtain ⟨⟨r,ok⟩,e1,e2⟩:=GW l (by have:=hr.2;omega) k hk;rw [if_pos hr] at e2;obtain ⟨rfl,f',hB'⟩:=e2;obtain ⟨rfl,-⟩:=Im hB' hB
  exact e1⟩
 have hs:Ev (λk=>Ch.f k l) (b,(f:Int)):=⟨_,λk hk=>by
  obtain ⟨b',f',e1,e2⟩:=Jx l hr k hk;obtain ⟨rfl,rfl⟩:=Im e2 hB
  exact e1⟩
 refine .yes hi ?_ (Cg (by have:=hB.2.1;have:=UI hr f;omega));unfold El.f;exact (sr hr).b (.t rfl (hs.b (.c rfl)))
theorem UT (hr:Ag l):Txt (λk=>BL.f k l) (λk=>Cb.f k l):=by
 obtain ⟨b,f,hB⟩:=JM l (2 ^ l.length) (Nat.pos_of_ne_zero (by simp));have hl:=hr.2
 have g:∀ k,l.length+600<=k->BL.f k l=some (strOfNums (textN (bitsN l.length f)),true)/\Cb.f k l=some (strOfNums (textN (bitsN l.length f)),true):=λk hk=>by
  obtain ⟨⟨r,ok⟩,e1,e2,e3⟩:=Nz l (by omega) k k hk hk;rw [if_pos hr] at e3;obtain ⟨rfl,b',f',hB',rfl⟩:=e3;obtain ⟨rfl,rfl⟩:=Im hB' hB;exact ⟨e1,e2⟩
 exact .yes ⟨_,λk hk=>(g k hk).1⟩ ⟨_,λk hk=>(g k hk).2⟩ (by rw [G5,FL,Dn];omega)
theorem TQ (hl:l.length<=100) {w:Int×Bool} {v:Int}:∀ (d i:Nat) (m:Int),i+d=l.length->(∀ v,Ev (λk=>Av.l0 k l m (i:Int)) v->Ev (λk=>AU.l1 k l v 0 0 0 0) w->Ev (λk=>AU.l0 k l m (i:Int)) w)/\∃ v,Ev (λk=>Av.l0 k l m (i:Int)) v:=by
 intro d
 induction d with
 | zero=>
  intro i m hi
  have e:Ev (λk=>Av.l0 k l m (i:Int)) m:=by
   refine .s ?_;simp only [Av.l0];exact .n (.c rfl)
  refine ⟨λv hv h=>?_,m,e⟩;obtain rfl:=hv.one e;refine .s ?_;simp only [AU.l0]
  exact .n h
 | succ d ih=>
  intro i m hi;obtain ⟨g1,v,g2⟩:=ih (i+1) (mx m (rd l (i:Int))) (by omega)
  have e:Ev (λk=>Av.l0 k l m (i:Int)) v:=by
   refine .s ?_;simp only [Av.l0];rw [At (by omega)];exact .o (.o g2)
  refine ⟨λv' hv h=>?_,v,e⟩;obtain rfl:=hv.one e;refine .s ?_;simp only [AU.l0];rw [At (by omega)];exact .o (.o (g1 _ g2 h))
theorem QV (hl:l.length<=100) (most:Int):∀ (d i:Nat) (p lo hi:Int),i+d=l.length->Num (λk=>BS.l0 k most p lo hi l (l.length:Int) (i:Int)) (λk=>AU.l1 k l most p lo hi (i:Int)):=by
 intro d
 induction d with
 | zero=>
  intro i p lo hi h;refine .yes (n:=wrap64 (hi-lo)) (.s ?_) (.s ?_) (Fw _)
  ·simp only [BS.l0];exact .n (.c rfl)
  ·simp only [AU.l1]
   exact .n (.c rfl)
 | succ d ih=>
  intro i p lo hi h;by_cases hc:wrap64 (p+rd l (i:Int))<=most
  ·obtain ⟨a,b,ok,h1,h2,h3⟩:=ih (i+1) (wrap64 (p+rd l (i:Int))) (mn lo (wrap64 (p+rd l (i:Int)))) (mx hi (wrap64 (p+rd l (i:Int)))) (by omega);refine ⟨a,b,ok,.s ?_,.s ?_,h3⟩
   ·simp only [BS.l0];rw [At (n:=i) (by omega)];exact .o (.o (.o (.t hc h1)))
   ·simp only [AU.l1];rw [At (n:=i) (by omega)];exact .o (.o (.t hc h2))
  ·obtain ⟨a,b,ok,h1,h2,h3⟩:=ih (i+1) (wrap64 (p-rd l (i:Int))) (mn lo (wrap64 (p-rd l (i:Int)))) (mx hi (wrap64 (p-rd l (i:Int)))) (by omega);refine ⟨a,b,ok,.s ?_,.s ?_,h3⟩
   ·simp only [BS.l0];rw [At (n:=i) (by omega)];exact .o (.o (.o (.f hc h1)))
   ·simp only [AU.l1];rw [At (n:=i) (by omega)];exact .o (.o (.f hc h2))
theorem RL (hr:Ag l):Num (λk=>BS.f k l) (λk=>AU.f k l):=by
 unfold BS.f AU.f;have hl:=hr.2;have h0:0<l.length:=by omega
 have hx:=hr.1 _ (Wk h0);obtain ⟨-,v,g2⟩:=TQ (l:=l) (w:=(0,false)) (v:=0) (by omega) (l.length-1) 1 (rd l 0) (by omega);obtain ⟨a,b,ok,h1,h2,h3⟩:=QV (l:=l) (by omega) v l.length 0 0 0 0 (by omega);obtain ⟨g1,-⟩:=TQ (l:=l) (w:=(b,ok)) (v:=0) (by omega) (l.length-1) 1 (rd l 0) (by omega);have g3:=g1 v g2 h2;refine ⟨a,b,ok,(ir hr).b (.t rfl (.b (v:=v) ?_ h1)),(sr hr).b (.t rfl (.s ?_)),h3⟩
 ·unfold Av.f;exact .t h0 g2
 ·simp only [AU.l0];refine .o (.o ?_)
  have e:mx 0 (rd l 0)=rd l 0:=by
   rw [show (0:Int)=((0:Nat):Int) from rfl,B9 h0,H6,if_pos (by omega)]
  rw [e,show wrap64 (0+1)=((1:Nat):Int) by unfold wrap64;omega];exact g3
theorem T6 (hl:l.length<=100):∀ (n:Nat) (acc:List Int),n<=l.length->acc.length<=100-n->Ev (λk=>CF.l0 k l acc ((n:Int)-1)) (acc++(l.take n).reverse,true):=by
 intro n
 induction n with
 | zero=>
  intro acc hn ha;refine .s ?_;simp only [CF.l0]
  exact .n (.c (by simp))
 | succ n ih=>
  intro acc hn ha;have:=ih (acc++[rd l (n:Int)]) (by omega) (by rw [IN];simp only [It,IS];omega);refine .s ?_;simp only [CF.l0];rw [show ((n+1:Nat):Int)-1=(n:Int) by omega,show wrap64 ((n:Int)-1)=(n:Int)-1 by unfold wrap64;omega];refine .o (.o (.o (.o (this.r ?_))));rw [Mk l n (by omega),List.reverse_append,B9 (by omega)];simp
theorem T5 (hr:Ag l):Ev (λk=>CV.f k l) (l.reverse,true):=by
 unfold CV.f;have hl:=hr.2;exact (ir hr).b (.t rfl ((Gc (by omega) (by omega)).b (.c rfl)))
theorem T8 (hr:Ag l):Ev (λk=>CF.f k l) (l.reverse,true):=by
 unfold CF.f;have hl:=hr.2;refine Ev.b (.c rfl) ((sr hr).b (.t rfl ?_));rw [show wrap64 ((l.length:Int)-1)=(l.length:Int)-1 by unfold wrap64;omega];refine (T6 (by omega) l.length [] (Wn _) (by simp)).r ?_;rw [List.take_length,Ws]
theorem Ny (hr:Ag l):Ag l.reverse:=⟨λx hx=>hr.1 x (List.mem_reverse.mp hx),by rw [List.length_reverse];exact hr.2.1,by rw [List.length_reverse];exact hr.2.2⟩
theorem UG (hr:Ag l):Ev (λk=>Cy.f k l) (sortL l,true):=⟨l.length+10,λk hk=>(Tm l (by have:=hr.2;omega) k hk).trans (by unfold Oa;rw [if_pos hr])⟩
theorem UH (hr:Ag l):Ev (λk=>Ea.f k l) (sortL l,true):=by
 unfold Ea.f Fg.f;have hl:=hr.2;have hb:=JE hr;exact .n (Ev.b ⟨_,Tl l (by omega)⟩ (((sb hb.1).b (.t (by simpa using hb) (.c rfl))).b (.c rfl)))
end

end U
namespace U
theorem Ir {at_:List Bool} {i:Nat} (h:i<at_.length):rdOf false at_ (i:Int)=at_[i]:=by
 unfold rdOf;rw [Rr,WI,WH h];rfl
theorem Fi (at_:List Bool) (i j:Nat) (h:i<at_.length):rdOf false (at_.set i true) (j:Int)=if i=j then true else rdOf false at_ (j:Int):=by
 unfold rdOf;rw [Rr,WI,WI,List.getElem?_set];by_cases hij:i=j
 ·rw [if_pos hij,if_pos h,if_pos hij];rfl
 ·rw [if_neg hij,if_neg hij]
theorem Qn (xs:List Bool) (hl:xs.length<=1000):∀ (d k i:Nat),i+d=xs.length->d+1<=k->∃ r,Bo.l0 k xs true (xs.length:Int) (i:Int)=some r/\(r>=0↔true∈xs.drop i):=by
 intro d
 induction d with
 | zero=>
  intro k i hi hk
  obtain ⟨m,rfl⟩:∃ m,k=m+1:=⟨k-1,by omega⟩
  rw [Bo.l0,if_neg (by omega),Wm (by omega)]
  exact ⟨-1,rfl,by simp⟩
 | succ d ih=>
  intro k i hi hk
  obtain ⟨m,rfl⟩:∃ m,k=m+1:=⟨k-1,by omega⟩
  have hil:i<xs.length:=by omega
  rw [Bo.l0,if_pos (by omega),if_pos (by omega),if_pos (by omega),Ir hil,At (by omega),Wl hil];by_cases h:xs[i]=true
  ·rw [if_pos (by rw [h];rfl)];exact ⟨(i:Int),rfl,⟨λ_=>by rw [h];exact TO,λ_=>by omega⟩⟩
  ·rw [if_neg (by rw [WJ.mpr h];decide)];obtain ⟨r,h1,h2⟩:=ih m (i+1) (by omega) (by omega);refine ⟨r,h1,h2.trans ?_⟩;rw [Wy];exact ⟨.inr,λq=>q.resolve_left (λe=>h e.symm)⟩
theorem IZ (xs:List Bool) (hl:xs.length<=1000) (k:Nat) (hk:xs.length+1<=k):Cd.f k xs true=some (decide (true∈xs)):=by
 obtain ⟨r,h1,h2⟩:=Qn xs hl xs.length k 0 (by omega) hk;unfold Cd.f Bo.f;rw [show ((0:Nat):Int)=0 from rfl] at h1;rw [WF] at h2;rw [h1];simp only [AI];congr 1;exact decide_eq_decide.mpr h2
def Laid (at_ next:List Bool) (x S kk:Nat):Prop:=∀ p:Nat,p<kk->rdOf false at_ (p:Int)=true->(p+x<=S->rdOf false next ((p+x:Nat):Int)=true)/\(x<=p->rdOf false next ((p-x:Nat):Int)=true)
def upB (at_ next:List Bool) (x S kk:Nat):List Bool:=if rdOf false at_ (kk:Int)=true/\kk+x<=S then next.set (kk+x) true else next
def down (at_ next:List Bool) (x kk:Nat):List Bool:=if rdOf false at_ (kk:Int)=true/\x<=kk then next.set (kk-x) true else next
theorem Fv (at_ next:List Bool) (x S kk:Nat):(upB at_ next x S kk).length=next.length:=by
 unfold upB;split<;>simp
theorem GL (at_ next:List Bool) (x kk:Nat):(down at_ next x kk).length=next.length:=by
 unfold down;split<;>simp
theorem Lv {at_ next:List Bool} {x S kk j:Nat} (hS:S<next.length) (h:rdOf false next (j:Int)=true):rdOf false (upB at_ next x S kk) (j:Int)=true:=by
 unfold upB;split
 ·next hc=>
  rw [Fi _ _ _ (by omega)];split
  ·rfl
  ·exact h
 ·exact h
theorem HD {at_ next:List Bool} {x kk j:Nat} (hk:kk<next.length) (h:rdOf false next (j:Int)=true):rdOf false (down at_ next x kk) (j:Int)=true:=by
 unfold down;split
 ·next hc=>
  rw [Fi _ _ _ (by omega)];split
  ·rfl
  ·exact h
 ·exact h
theorem Pw {at_ next:List Bool} {x S kk:Nat} (hS:S<next.length) (hk:kk<next.length) (h:Laid at_ next x S kk):Laid at_ (down at_ (upB at_ next x S kk) x kk) x S (kk+1):=by
 have hk2:kk<(upB at_ next x S kk).length:=by rw [Fv];exact hk
 intro p hp ha;by_cases hpk:p=kk
 ·subst hpk;refine ⟨λhx=>HD hk2 ?_,λhx=>?_⟩
  ·unfold upB;rw [if_pos ⟨ha,hx⟩,Fi _ _ _ (by omega),if_pos rfl]
  ·unfold down;rw [if_pos ⟨ha,hx⟩,Fi _ _ _ (by omega),if_pos rfl]
 ·obtain ⟨h1,h2⟩:=h p (by omega) ha;exact ⟨λhx=>HD hk2 (Lv hS (h1 hx)),λhx=>HD hk2 (Lv hS (h2 hx))⟩
theorem K8 (l:List Int) (S x at0 n i:Nat) (at_ next:List Bool) (kk:Nat) (hx:1<=x/\x<=60) (hS:S<=900) (ha:at_.length=S+1) (hn:next.length=S+1) (hk:kk<S+1) (k:Nat) :
  Ah.l2 (k+2) l (S:Int) (x:Int) next ((S+1:Nat):Int) (at0:Int) l (n:Int) (i:Int) at_ ((S+1:Nat):Int) (kk:Int)=Ah.l2 k l (S:Int) (x:Int) (down at_ (upB at_ next x S kk) x kk) ((S+1:Nat):Int) (at0:Int) l (n:Int) (i:Int) at_ ((S+1:Nat):Int) ((kk+1:Nat):Int):=by
 have w1:wrap64 ((kk:Int)+(x:Int))=((kk+x:Nat):Int):=by unfold wrap64;omega
 have w2:wrap64 ((kk:Int)-(x:Int))=(kk:Int)-(x:Int):=by unfold wrap64;omega
 rw [Ah.l2,if_pos (by omega),if_pos (by omega),if_pos (by omega),w1]
 cases hb:rdOf false at_ (kk:Int) with
 | false=>
  have e1:upB at_ next x S kk=next:=by unfold upB;rw [hb,if_neg (λq=>absurd q.1 (by decide))]
  have e2:down at_ next x kk=next:=by unfold down;rw [hb,if_neg (λq=>absurd q.1 (by decide))]
  rw [if_neg (by decide),Ah.j4,if_neg (by decide),if_neg (by decide),At (by omega),e1,e2]
 | true=>
  rw [if_pos rfl,Ah.j4,w1,w2,At (by omega)]
  have e2:∀ nx:List Bool,nx.length=S+1->(if (kk:Int)-(x:Int)>=0 then (if 0<=(kk:Int)-(x:Int) then (if (kk:Int)-(x:Int)<(nx.length:Int) then (Ah.l2 k l (S:Int) (x:Int) (nx.set ((kk:Int)-(x:Int)).toNat true) ((S+1:Nat):Int) (at0:Int) l (n:Int) (i:Int) at_ ((S+1:Nat):Int) ((kk+1:Nat):Int)) else none) else none) else Ah.l2 k l (S:Int) (x:Int) nx ((S+1:Nat):Int) (at0:Int) l (n:Int) (i:Int) at_ ((S+1:Nat):Int) ((kk+1:Nat):Int))=Ah.l2 k l (S:Int) (x:Int) (down at_ nx x kk) ((S+1:Nat):Int) (at0:Int) l (n:Int) (i:Int) at_ ((S+1:Nat):Int) ((kk+1:Nat):Int):=by
   intro nx hnx;unfold down;by_cases h:x<=kk
   ·rw [if_pos (show (kk:Int)-(x:Int)>=0 by omega),if_pos (by omega),if_pos (by omega),if_pos ⟨hb,h⟩,show ((kk:Int)-(x:Int)).toNat=kk-x by omega]
   ·rw [if_neg (show ¬ (kk:Int)-(x:Int)>=0 by omega),if_neg (λq=>h q.2)]
  have e0:next.length=(upB at_ next x S kk).length:=(Fv _ _ _ _ _).symm
  by_cases h:kk+x<=S
  ·have e1:upB at_ next x S kk=next.set (kk+x) true:=by unfold upB;rw [if_pos ⟨hb,h⟩]
   rw [if_pos (by simp;omega),if_pos (by omega),if_pos (by omega),AI,if_pos rfl,Rr,<- e1,e0];exact e2 _ (by rw [Fv];exact hn)
  ·have e1:upB at_ next x S kk=next:=by unfold upB;rw [if_neg (λq=>h q.2)]
   rw [if_neg (by simp;omega),if_pos rfl,e1];exact e2 next hn
theorem SE (l:List Int) (S x at0 n i:Nat) (at_:List Bool) (hx:1<=x/\x<=60) (hS:S<=900) (ha:at_.length=S+1) (hi:i<1000)
  (hc:∀ next:List Bool,next.length=S+1->Laid at_ next x S (S+1)->∃ K,∀ k,K<=k->Ah.l1 k l (S:Int) next ((S+1:Nat):Int) (at0:Int) l (n:Int) ((i+1:Nat):Int)=some true) :
  ∀ (d kk:Nat) (next:List Bool),kk+d=S+1->next.length=S+1->Laid at_ next x S kk->∃ K,∀ k,K<=k->Ah.l2 k l (S:Int) (x:Int) next ((S+1:Nat):Int) (at0:Int) l (n:Int) (i:Int) at_ ((S+1:Nat):Int) (kk:Int)=some true:=by
 intro d
 induction d with
 | zero=>
  intro kk next hk hn hl
  have hk:kk=S+1:=by omega
  subst hk;obtain ⟨K,h⟩:=hc next hn hl
  refine ⟨K+1,λk hk=>?_⟩
  obtain ⟨m,rfl⟩:∃ m,k=m+1:=⟨k-1,by omega⟩
  rw [Ah.l2,if_neg (by omega),At (by omega)]
  exact h m (by omega)
 | succ d ih=>
  intro kk next hk hn hl
  obtain ⟨K,h⟩:=ih (kk+1) (down at_ (upB at_ next x S kk) x kk) (by omega) (by rw [GL,Fv];exact hn) (Pw (by omega) (by omega) hl);refine ⟨K+2,λk hk2=>?_⟩
  obtain ⟨m,rfl⟩:∃ m,k=m+2:=⟨k-2,by omega⟩
  rw [K8 l S x at0 n i at_ next kk hx hS ha hn (by omega) m];exact h m (by omega)
theorem G7 {S:Nat} (h:S<=900):(0:Int)<=((S+1:Nat):Int)/\(((S+1:Nat):Int)).toNat<=281474976710656/\wrap64 ((S:Int)+1)=((S+1:Nat):Int):=⟨by omega,by rw [Rr];omega,At (by omega)⟩
def stays (S:Int):List Int->List Bool->Int->Prop
 | x::l,b::bs,p=>(0<=(if b=true then p-x else p+x)/\(if b=true then p-x else p+x)<=S)/\stays S l bs (if b=true then p-x else p+x)
 | _,_,_=>True
theorem OA (l:List Int) (S at0:Nat) (hl:∀ x∈l,1<=x/\x<=60) (h9:l.length<=9) (hS:S<=900):∀ (d i:Nat) (at_:List Bool),i+d=l.length->at_.length=S+1->
  ((∃ (p:Nat) (bs:List Bool),bs.length=d/\rdOf false at_ (p:Int)=true/\p<S+1/\stays (S:Int) (l.drop i) bs (p:Int))\/∃ K,∀ k,K<=k->Ah.l0 k l (S:Int) ((S+1:Nat):Int) ((at0+1:Nat):Int)=some true)->at0<=S->
  ∃ K,∀ k,K<=k->Ah.l1 k l (S:Int) at_ ((S+1:Nat):Int) (at0:Int) l (l.length:Int) (i:Int)=some true:=by
 intro d
 induction d with
 | zero=>
  intro i at_ hi ha hp h0
  have hin:∀ p:Nat,p<S+1->rdOf false at_ (p:Int)=true->true∈at_:=λp hp h=>by
   rw [Ir (by omega)] at h;rw [<- h];exact Wk _
  rcases hp with ⟨p,bs,_,h1,h2,_⟩ | ⟨K,h⟩
  ·refine ⟨S+10,λk hk=>?_⟩
   obtain ⟨m,rfl⟩:∃ m,k=m+1:=⟨k-1,by omega⟩
   rw [Ah.l1,if_neg (by omega),IZ at_ (by omega) m (by omega),AI,Wo (hin p h2 h1),if_pos rfl]
  ·refine ⟨K+S+10,λk hk=>?_⟩
   obtain ⟨m,rfl⟩:∃ m,k=m+1:=⟨k-1,by omega⟩
   rw [Ah.l1,if_neg (by omega),IZ at_ (by omega) m (by omega),AI];split
   ·rfl
   ·rw [At (by omega)]
    exact h m (by omega)
 | succ d ih=>
  intro i at_ hi ha hp h0;have hil:i<l.length:=by omega
  have hx:=hl _ (Wk hil)
  obtain ⟨x,hxe⟩:∃ x:Nat,l[i]=(x:Int):=⟨l[i].toNat,by omega⟩
  have hx2:1<=x/\x<=60:=by omega
  have hrep:(List.replicate (S+1) false).length=S+1:=by simp
  have hlaid:Laid at_ (List.replicate (S+1) false) x S 0:=λp hp=>by omega
  have hc:∀ next:List Bool,next.length=S+1->Laid at_ next x S (S+1)->∃ K,∀ k,K<=k->Ah.l1 k l (S:Int) next ((S+1:Nat):Int) (at0:Int) l (l.length:Int) ((i+1:Nat):Int)=some true:=by
   intro next hn hla
   refine ih (i+1) next (by omega) hn ?_ h0
   rcases hp with ⟨p,bs,b1,b2,b3,b4⟩ | h
   ·left;rw [Wl hil,hxe] at b4
    match bs,b1,b4 with
    | b::bs,b1,b4=>
     obtain ⟨⟨c1,c2⟩,c3⟩:=b4;obtain ⟨l1,l2⟩:=hla p b3 b2
     cases b with
     | true=>
      rw [if_pos rfl] at c1 c2 c3;rw [show (p:Int)-(x:Int)=((p-x:Nat):Int) by omega] at c3
      exact ⟨p-x,bs,by simpa using b1,l2 (by omega),by omega,c3⟩
     | false=>
      rw [if_neg (by decide)] at c1 c2 c3;rw [show (p:Int)+(x:Int)=((p+x:Nat):Int) by omega] at c3;exact ⟨p+x,bs,by simpa using b1,l1 (by omega),by omega,c3⟩
   ·exact .inr h
  obtain ⟨K,h⟩:=SE l S x at0 l.length i at_ hx2 hS ha (by omega) hc (S+1) 0 (List.replicate (S+1) false) (by omega) hrep hlaid;refine ⟨K+1,λk hk=>?_⟩
  obtain ⟨m,rfl⟩:∃ m,k=m+1:=⟨k-1,by omega⟩
  obtain ⟨w0,w1,w⟩:=G7 hS;rw [Ah.l1,if_pos (by omega),if_pos (by omega),if_pos (by omega),w,if_pos w0,if_pos w1,B9 hil,hxe,Rr,ha];exact h m (by omega)
theorem SD (l:List Int) (S q:Nat) (bs:List Bool) (hl:∀ x∈l,1<=x/\x<=60) (h9:l.length<=9) (hS:S<=900) (hb:bs.length=l.length) (hq:q<=S) (hst:stays (S:Int) l bs (q:Int)):∀ (d at0:Nat),at0+d=q->∃ K,∀ k,K<=k->Ah.l0 k l (S:Int) ((S+1:Nat):Int) (at0:Int)=some true:=by
 intro d
 induction d with
 | zero=>
  intro at0 h0;have h0:at0=q:=by omega
  subst h0;obtain ⟨K,h⟩:=OA l S at0 hl h9 hS l.length 0 ((List.replicate (S+1) false).set at0 true) (by omega) (by simp) (.inl ⟨at0,bs,hb,by rw [Fi _ _ _ (by simp;omega),if_pos rfl],by omega,by rw [WF];exact hst⟩) hq;refine ⟨K+1,λk hk=>?_⟩
  obtain ⟨m,rfl⟩:∃ m,k=m+1:=⟨k-1,by omega⟩
  rw [Ah.l0,if_pos (by omega),At (by omega),if_pos (by omega),if_pos (by omega),AI,if_pos (by omega),if_pos (by simp;omega),Rr,Rr]
  exact h m (by omega)
 | succ d ih=>
  intro at0 h0;obtain ⟨K,h⟩:=OA l S at0 hl h9 hS l.length 0 ((List.replicate (S+1) false).set at0 true) (by omega) (by simp) (.inr (ih (at0+1) (by omega))) (by omega);refine ⟨K+1,λk hk=>?_⟩
  obtain ⟨m,rfl⟩:∃ m,k=m+1:=⟨k-1,by omega⟩
  rw [Ah.l0,if_pos (by omega),At (by omega),if_pos (by omega),if_pos (by omega),AI,if_pos (by omega),if_pos (by simp;omega),Rr,Rr];exact h m (by omega)
theorem Ig:∀ (l:List Int) (bs:List Bool) (p lo hi:Int),(steps l bs (p,lo,hi)).2.1<=lo/\hi<=(steps l bs (p,lo,hi)).2.2
 | [],_,_,_,_=>⟨Int.le_refl _,Int.le_refl _⟩
 | _::_,[],_,_,_=>⟨Int.le_refl _,Int.le_refl _⟩
 | x::l,b::bs,p,lo,hi=>by
  rw [steps];simp only;generalize (if b=true then p-x else p+x)=p';have h:=Ig l bs p' (mn lo p') (mx hi p');have h1:mn lo p'<=lo:=by unfold mn;split<;>omega
  have h2:hi<=mx hi p':=by unfold mx;split<;>omega
  omega
theorem JH:∀ (l:List Int) (bs:List Bool) (p lo hi L S:Int),L<=(steps l bs (p,lo,hi)).2.1->(steps l bs (p,lo,hi)).2.2<=L+S->stays S l bs (p-L)
 | [],_,_,_,_,_,_,_,_=>trivial
 | _::_,[],_,_,_,_,_,_,_=>trivial
 | x::l,b::bs,p,lo,hi,L,S,h1,h2=>by
  rw [steps] at h1 h2;simp only at h1 h2;rw [stays];have e:(if b=true then p-L-x else p-L+x)=(if b=true then p-x else p+x)-L:=by split<;>omega
  rw [e];generalize (if b=true then p-x else p+x)=p' at h1 h2;have h:=Ig l bs p' (mn lo p') (mx hi p');have h3:mn lo p'<=p':=by unfold mn;split<;>omega
  have h4:p'<=mx hi p':=by unfold mx;split<;>omega
  exact ⟨⟨by omega,by omega⟩,JH l bs p' _ _ L S h1 h2⟩
theorem Kx:∀ (l:List Int) (bs:List Bool) (p lo hi:Int),(∀ x∈l,1<=x/\x<=60)->lo<=p->p<=hi->(steps l bs (p,lo,hi)).2.2-(steps l bs (p,lo,hi)).2.1<=hi-lo+l.sum
 | [],_,_,_,_,_,_,_=>by simp [steps]
 | x::l,[],p,lo,hi,hl,h1,h2=>by
  have hp:=hl x TO
  have h3:0<=l.sum:=by
   have:∀ l:List Int,(∀ x∈l,1<=x/\x<=60)->0<=l.sum:=by
    intro l
    induction l with
    | nil=>intro _;simp
    | cons x l ih=>
     intro h;have a:=h x TO;have b:=ih (λy hy=>h y (S2 _ hy));rw [List.sum_cons];omega
   exact this l (λy hy=>hl y (S2 _ hy))
  show hi-lo<=_;rw [List.sum_cons]
  omega
 | x::l,b::bs,p,lo,hi,hl,h1,h2=>by
  have hp:=hl x TO;rw [steps,List.sum_cons];simp only;have hd:(if b=true then p-x else p+x)=p-x\/(if b=true then p-x else p+x)=p+x:=by split<;>simp
  generalize (if b=true then p-x else p+x)=p' at hd;have h3:mn lo p'<=p'/\(mn lo p'=lo\/mn lo p'=p'):=by unfold mn;split<;>omega
  have h4:p'<=mx hi p'/\(mx hi p'=hi\/mx hi p'=p'):=by unfold mx;split<;>omega
  have h:=Kx l bs p' (mn lo p') (mx hi p') (λy hy=>hl y (S2 _ hy)) h3.1 h4.1;omega
theorem NJ (l:List Int) (hr:Ag l) (bs:List Bool) (hb:bs.length=l.length):∃ K,∀ k,K<=k->Ah.f k l ((steps l bs (0,0,0)).2.2-(steps l bs (0,0,0)).2.1)=some true:=by
 have h9:=hr.2.2;have hl2:l.length<=1048576:=by omega
 have hm:=Ig l bs 0 0 0;have hw:=Kx l bs 0 0 0 hr.1 (by omega) (by omega);have hs:=Gj l (by omega) hr.1;have hst:=JH l bs 0 0 0 (steps l bs (0,0,0)).2.1 ((steps l bs (0,0,0)).2.2-(steps l bs (0,0,0)).2.1) (Int.le_refl _) (by omega);have hin:=IM l bs 0 0 0 0 hr.1 (by omega) (by omega) (by omega) (by omega) (by omega) (by omega);generalize (steps l bs (0,0,0)).2.1=L at hm hw hst hin;generalize (steps l bs (0,0,0)).2.2=H at hm hw hst hin
 obtain ⟨S,hSe⟩:∃ S:Nat,H-L=(S:Int):=⟨(H-L).toNat,by omega⟩
 obtain ⟨q,hqe⟩:∃ q:Nat,0-L=(q:Int):=⟨(0-L).toNat,by omega⟩
 rw [hSe] at hst ⊢;rw [hqe] at hst;have hq:q<=S:=by omega
 have hS9:S<=900\/True:=.inr trivial
 have hsum:l.sum<=60*l.length:=by
  have:∀ l:List Int,(∀ x∈l,1<=x/\x<=60)->l.sum<=60*l.length:=by
   intro l
   induction l with
   | nil=>intro _;simp
   | cons x l ih=>
    intro h;have a:=h x TO;have b:=ih (λy hy=>h y (S2 _ hy));rw [List.sum_cons,It];omega
  exact this l hr.1
 have hS:S<=540:=by omega
 obtain ⟨K,h⟩:=SD l S q bs hr.1 h9 (by omega) hb hq hst q 0 (by omega);refine ⟨K+l.length+100,λk hk=>?_⟩
 obtain ⟨m,rfl⟩:∃ m,k=m+1:=⟨k-1,by omega⟩
 unfold Ah.f;rw [EG l hl2 _ (by omega),Wo hr];simp only [AI];rw [if_pos trivial,Ah.j0,if_neg (by simp),hs m (by omega),AI];rw [show mn (S:Int) l.sum=(S:Int) by unfold mn;split<;>omega,At (by omega)];exact h m (by omega)

end U
namespace U
def nxL (at_:List Bool) (x S kk d:Nat) (next:List Bool):List Bool:=(List.range' kk d).foldl (λnext kk=>down at_ (upB at_ next x S kk) x kk) next
def nxt (S:Nat) (at_:List Bool) (x:Nat):List Bool:=nxL at_ x S 0 (S+1) (List.replicate (S+1) false)
theorem OK (at_:List Bool) (x S:Nat):∀ (d kk:Nat) (next:List Bool),(nxL at_ x S kk d next).length=next.length
 | 0,_,_=>rfl
 | d+1,kk,next=>by
  unfold nxL;rw [Wu,Wt];have:=OK at_ x S d (kk+1) (down at_ (upB at_ next x S kk) x kk);unfold nxL at this;rw [this,GL,Fv]
def M (at_:List Bool) (q:Nat):Prop:=rdOf false at_ (q:Int)=true
theorem Np {at_:List Bool} {q:Nat} (h:M at_ q):q<at_.length:=by
 rcases Nat.lt_or_ge q at_.length with h1 | h1
 ·exact h1
 ·exfalso;unfold M rdOf at h;rw [Rr,WI,List.getElem?_eq_none h1] at h;cases h
theorem VG (at_:List Bool) (x S:Nat) (ha:at_.length=S+1) (q:Nat):∀ (d kk:Nat) (next:List Bool),kk+d=S+1->next.length=S+1->(M (nxL at_ x S kk d next) q↔M next q\/∃ p,kk<=p/\M at_ p/\(p+x=q/\q<=S\/q+x=p)):=by
 intro d
 induction d with
 | zero=>
  intro kk next hk hn
  exact ⟨.inl,λh=>h.elim id λ⟨p,h1,h2,_⟩=>by have:=Np h2;omega⟩
 | succ d ih=>
  intro kk next hk hn
  have e:nxL at_ x S kk (d+1) next=nxL at_ x S (kk+1) d (down at_ (upB at_ next x S kk) x kk):=by
   unfold nxL;rw [Wu,Wt]
  have h1:M (down at_ (upB at_ next x S kk) x kk) q↔M next q\/M at_ kk/\(kk+x=q/\q<=S\/q+x=kk):=by
   have hu:∀ q,M (upB at_ next x S kk) q↔M next q\/M at_ kk/\(kk+x=q/\q<=S):=by
    intro q;unfold upB;by_cases h:rdOf false at_ (kk:Int)=true/\kk+x<=S
    ·rw [if_pos h];unfold M;rw [Fi _ _ _ (by omega)];split
     ·next e=>exact ⟨λ_=>.inr ⟨h.1,e,by omega⟩,λ_=>rfl⟩
     ·next e=>exact ⟨.inl,λh=>h.elim id λh=>absurd h.2.1 e⟩
    ·rw [if_neg h];exact ⟨.inl,λh2=>h2.elim id λh2=>absurd ⟨h2.1,by omega⟩ h⟩
   have hl:=Fv at_ next x S kk
   unfold down;by_cases h:rdOf false at_ (kk:Int)=true/\x<=kk
   ·rw [if_pos h];have:=hu q;unfold M at this ⊢;rw [Fi _ _ _ (by omega)];split
    ·next e=>exact ⟨λ_=>.inr ⟨h.1,.inr (by omega)⟩,λ_=>rfl⟩
    ·next e=>
     rw [this];exact ⟨λh=>h.imp_right λh=>⟨h.1,.inl h.2⟩,λh=>h.imp_right λh=>⟨h.1,h.2.elim id λh=>absurd (by omega) e⟩⟩
   ·rw [if_neg h,hu];exact ⟨λh=>h.imp_right λh=>⟨h.1,.inl h.2⟩,λh2=>h2.imp_right λh2=>⟨h2.1,h2.2.elim id λh3=>absurd ⟨h2.1,by omega⟩ h⟩⟩
  rw [e,ih (kk+1) _ (by omega) (by rw [GL,Fv];exact hn),h1];constructor
  ·rintro ((h | h) | ⟨p,h2,h3⟩)
   ·exact .inl h
   ·exact .inr ⟨kk,Wn _,h⟩
   ·exact .inr ⟨p,by omega,h3⟩
  ·rintro (h | ⟨p,h2,h3⟩)
   ·exact .inl (.inl h)
   ·by_cases hp:p=kk
    ·subst hp;exact .inl (.inr h3)
    ·exact .inr ⟨p,by omega,h3⟩
theorem TJ (n q:Nat):¬ M (List.replicate n false) q:=λh=>by
 have:=Np h;rw [OF] at this;unfold M at h;rw [Ir (by rw [OF];exact this),List.getElem_replicate] at h;cases h
theorem Hh (S:Nat) (at_:List Bool) (x:Nat):(nxt S at_ x).length=S+1:=by unfold nxt;rw [OK,OF]
theorem OL {S:Nat} {at_:List Bool} (ha:at_.length=S+1) (x q:Nat):M (nxt S at_ x) q↔∃ p,M at_ p/\(p+x=q/\q<=S\/q+x=p):=by
 unfold nxt;rw [VG at_ x S ha q _ _ _ (by omega) (by rw [OF])];exact ⟨λh=>h.elim (λh=>absurd h (TJ _ _)) λ⟨p,_,h⟩=>⟨p,h⟩,λ⟨p,h⟩=>.inr ⟨p,WC _,h⟩⟩
def sgl (S p:Nat):List Bool:=(List.replicate (S+1) false).set p true
theorem JT (S p:Nat):(sgl S p).length=S+1:=by unfold sgl;rw [List.length_set,OF]
theorem OT {S p:Nat} (hp:p<=S) (q:Nat):M (sgl S p) q↔q=p:=by
 unfold M sgl;rw [Fi _ _ _ (by rw [OF];omega)];split
 ·next h=>exact ⟨λ_=>h.symm,λ_=>rfl⟩
 ·next h=>exact ⟨λh2=>absurd h2 (TJ _ _),λe=>absurd e.symm h⟩
def rch (S:Nat) (xs:List Nat) (at_:List Bool):List Bool:=xs.foldl (nxt S) at_
theorem OP (S:Nat):∀ (xs:List Nat) (at_:List Bool),at_.length=S+1->(rch S xs at_).length=S+1
 | [],_,h=>h
 | x::xs,at_,h=>by
  unfold rch;rw [Wt];exact OP S xs _ (Hh S at_ x)
theorem MY (S:Nat):∀ (xs:List Nat) (at_:List Bool) (q:Nat),at_.length=S+1->(M (rch S xs at_) q↔∃ p,p<=S/\M at_ p/\M (rch S xs (sgl S p)) q)
 | [],at_,q,h=>by
  constructor
  ·intro h1;have:=Np h1;have h2:M at_ q:=h1;have:=Np h2;exact ⟨q,by omega,h2,(OT (by omega) q).mpr rfl⟩
  ·rintro ⟨p,h1,h2,h3⟩;rw [(OT h1 q).mp h3]
   exact h2
 | x::xs,at_,q,h=>by
  have e:∀ at_,rch S (x::xs) at_=rch S xs (nxt S at_ x):=λ_=>rfl;rw [e,MY S xs _ q (Hh S at_ x)];constructor
  ·rintro ⟨p',h1,h2,h3⟩;obtain ⟨p,h4,h5⟩:=(OL h x p').mp h2;have hp:=Np h4;refine ⟨p,by omega,h4,?_⟩;rw [e,MY S xs _ q (Hh S _ x)];exact ⟨p',h1,(OL (JT S p) x p').mpr ⟨p,(OT (by omega) p).mpr rfl,h5⟩,h3⟩
  ·rintro ⟨p,h1,h2,h3⟩;rw [e,MY S xs _ q (Hh S _ x)] at h3;obtain ⟨p',h4,h5,h6⟩:=h3;obtain ⟨p2,h7,h8⟩:=(OL (JT S p) x p').mp h5;obtain rfl:=(OT h1 p2).mp h7;exact ⟨p',h4,(OL h x p').mpr ⟨p2,h2,h8⟩,h6⟩
def fitB (l:List Int) (S:Nat):Prop:=∃ p,p<=S/\∃ q,M (rch S (l.map Int.toNat) (sgl S p)) q
section
variable {l:List Int} {S:Nat}
theorem Vt (hS:S<=900) {x at0 n i:Nat} (hx:1<=x/\x<=60) {at_:List Bool} (ha:at_.length=S+1) (hi:i<1000) {v:Bool}:∀ (d kk:Nat) (next:List Bool),kk+d=S+1->next.length=S+1->
  Ev (λk=>Ah.l1 k l (S:Int) (nxL at_ x S kk d next) ((S+1:Nat):Int) (at0:Int) l (n:Int) ((i+1:Nat):Int)) v->Ev (λk=>Ah.l2 k l (S:Int) (x:Int) next ((S+1:Nat):Int) (at0:Int) l (n:Int) (i:Int) at_ ((S+1:Nat):Int) (kk:Int)) v:=by
 intro d
 induction d with
 | zero=>
  intro kk next hk hn h
  refine .s ?_;simp only [Ah.l2];rw [At (n:=i) (by omega)]
  exact .n h
 | succ d ih=>
  intro kk next hk hn h
  have e:nxL at_ x S kk (d+1) next=nxL at_ x S (kk+1) d (down at_ (upB at_ next x S kk) x kk):=by
   unfold nxL;rw [Wu,Wt]
  rw [e] at h;obtain ⟨K,h⟩:=ih (kk+1) _ (by omega) (by rw [GL,Fv];exact hn) h;refine ⟨K+2,λk hk2=>?_⟩
  obtain ⟨m,rfl⟩:∃ m,k=m+2:=⟨k-2,by omega⟩
  exact (K8 l S x at0 n i at_ next kk hx hS ha hn (by omega) m).trans (h m (by omega))
theorem Vs (hr:Ag l) (hS:S<=900) {at0:Nat} {v:Bool}:∀ (d i:Nat) (at_:List Bool),i+d=l.length->at_.length=S+1->
  Ev (λk=>Ah.l1 k l (S:Int) (rch S ((l.drop i).map Int.toNat) at_) ((S+1:Nat):Int) (at0:Int) l (l.length:Int) (l.length:Int)) v->Ev (λk=>Ah.l1 k l (S:Int) at_ ((S+1:Nat):Int) (at0:Int) l (l.length:Int) (i:Int)) v:=by
 have h9:=hr.2;intro d
 induction d with
 | zero=>
  intro i at_ hi ha h;rw [Wm (by omega)] at h;rw [show i=l.length by omega]
  exact h
 | succ d ih=>
  intro i at_ hi ha h;have hil:i<l.length:=by omega
  have hx:=hr.1 _ (Wk hil);rw [Wl hil,Wz] at h;have h2:=ih (i+1) (nxt S at_ l[i].toNat) (by omega) (Hh _ _ _) h;obtain ⟨w0,w1,w⟩:=G7 hS;refine .s ?_;simp only [Ah.l1];rw [w,B9 hil,Rr,ha];have e:l[i]=((l[i].toNat:Nat):Int):=by omega
  rw [e];exact .o (.o (.o (.t w0 (.o (Vt hS (by omega) ha (by omega) (S+1) 0 _ (by omega) (by rw [OF]) h2)))))
theorem TR {at_:List Bool}:true∈at_↔∃ q,M at_ q:=by
 constructor
 ·intro h;obtain ⟨q,h1,h2⟩:=List.mem_iff_getElem.mp h;exact ⟨q,by unfold M;rw [Ir h1,h2]⟩
 ·rintro ⟨q,h⟩;have h1:=Np h;unfold M at h;rw [Ir h1] at h;rw [<- h];exact Wk h1
theorem Vr (hr:Ag l) (hS:S<=900):∀ (d at0:Nat),at0+d=S+1->∃ v,Ev (λk=>Ah.l0 k l (S:Int) ((S+1:Nat):Int) (at0:Int)) v/\(v=true↔∃ p,at0<=p/\p<=S/\∃ q,M (rch S (l.map Int.toNat) (sgl S p)) q):=by
 have h9:=hr.2;obtain ⟨w0,w1,w⟩:=G7 hS;intro d
 induction d with
 | zero=>
  intro at0 h0;refine ⟨false,.s ?_,by simp;intro p h1 h2;omega⟩;simp only [Ah.l0]
  exact .n (.c rfl)
 | succ d ih=>
  intro at0 h0;obtain ⟨v,h1,h2⟩:=ih (at0+1) (by omega);have hrl:=OP S (l.map Int.toNat) (sgl S at0) (JT S at0)
  have go:∀ v,Ev (λk=>Ah.l1 k l (S:Int) (rch S (l.map Int.toNat) (sgl S at0)) ((S+1:Nat):Int) (at0:Int) l (l.length:Int) (l.length:Int)) v->Ev (λk=>Ah.l0 k l (S:Int) ((S+1:Nat):Int) (at0:Int)) v:=λv h=>by
   refine .s ?_;simp only [Ah.l0];rw [w,Rr,Rr];exact .o (.t w0 (.o (.b (.c rfl) (.o (.t (by rw [OF];omega) (Vs hr hS l.length 0 _ (by omega) (JT S at0) (by rw [WF];exact h)))))))
  have hb:Ev (λk=>Cd.f k (rch S (l.map Int.toNat) (sgl S at0)) true) (decide (true∈rch S (l.map Int.toNat) (sgl S at0))):=⟨_,IZ _ (by omega)⟩
  by_cases hm:true∈rch S (l.map Int.toNat) (sgl S at0)
  ·refine ⟨true,go _ (.s ?_),by simp;exact ⟨at0,Wn _,by omega,TR.mp hm⟩⟩;simp only [Ah.l1];exact .n (hb.b (.t (by simpa using hm) (.c rfl)))
  ·refine ⟨v,go _ (.s ?_),?_⟩
   ·simp only [Ah.l1];rw [At (n:=at0) (by omega)];exact .n (hb.b (.f (by simpa using hm) h1))
   ·rw [h2];constructor
    ·rintro ⟨p,h3,h4⟩;exact ⟨p,by omega,h4⟩
    ·rintro ⟨p,h3,h4,h5⟩;by_cases hp:p=at0
     ·subst hp;exact absurd (TR.mpr h5) hm
     ·exact ⟨p,by omega,h4,h5⟩
theorem QH (hr:Ag l) (hS:(S:Int)<=l.sum):∃ v,Ev (λk=>Ah.f k l (S:Int)) v/\(v=true↔fitB l S):=by
 have hs:=FJ hr;obtain ⟨w0,w1,w⟩:=G7 (S:=S) (by omega);obtain ⟨v,h1,h2⟩:=Vr hr (S:=S) (by omega) (S+1) 0 (by omega);refine ⟨v,?_,h2.trans ⟨λ⟨p,_,h⟩=>⟨p,h⟩,λ⟨p,h⟩=>⟨p,WC _,h⟩⟩⟩;unfold Ah.f;refine (ir hr).b (.t rfl (.s ?_));simp only [Ah.j0];refine .f (by simp) ((isu hr).b ?_);rw [show mn (S:Int) l.sum=(S:Int) by unfold mn;split<;>omega,w];exact h1
theorem UE (hS:S<=900) {x i:Nat} (hil:i<l.length) (hxe:rd l (i:Int)=(x:Int)) (hx:1<=x/\x<=60) {at_ next:List Bool} {kk:Nat} (ha:at_.length=S+1) (hn:next.length=S+1) (hk:kk<S+1) (k:Nat) :
  Aw.l2 (k+2) l (S:Int) at_ (i:Int) next (kk:Int)=Aw.l2 k l (S:Int) at_ (i:Int) (down at_ (upB at_ next x S kk) x kk) ((kk+1:Nat):Int):=by
 have w1:wrap64 ((kk:Int)+(x:Int))=((kk+x:Nat):Int):=by unfold wrap64;omega
 have w2:wrap64 ((kk:Int)-(x:Int))=(kk:Int)-(x:Int):=by unfold wrap64;omega
 rw [Aw.l2,if_pos (by omega),if_pos (by omega),if_pos (by omega),hxe,w1]
 cases hb:rdOf false at_ (kk:Int) with
 | false=>
  have e1:upB at_ next x S kk=next:=by unfold upB;rw [hb,if_neg (λq=>absurd q.1 (by decide))]
  have e2:down at_ next x kk=next:=by unfold down;rw [hb,if_neg (λq=>absurd q.1 (by decide))]
  rw [if_neg (by decide),Aw.j3,if_neg (by decide),if_pos (by omega),if_pos (by omega),hb,if_neg (by decide),At (by omega),e1,e2]
 | true=>
  have e2:∀ nx:List Bool,nx.length=S+1->(if (kk:Int)>=(x:Int) then (if 0<=(kk:Int)-(x:Int) then (if (kk:Int)-(x:Int)<((S+1:Nat):Int) then (Aw.l2 k l (S:Int) at_ (i:Int) (nx.set ((kk:Int)-(x:Int)).toNat true) ((kk+1:Nat):Int)) else none) else none) else Aw.l2 k l (S:Int) at_ (i:Int) nx ((kk+1:Nat):Int))=Aw.l2 k l (S:Int) at_ (i:Int) (down at_ nx x kk) ((kk+1:Nat):Int):=by
   intro nx hnx;unfold down;by_cases h:x<=kk
   ·rw [if_pos (show (kk:Int)>=(x:Int) by omega),if_pos (by omega),if_pos (by omega),if_pos ⟨hb,h⟩,show ((kk:Int)-(x:Int)).toNat=kk-x by omega]
   ·rw [if_neg (show ¬ (kk:Int)>=(x:Int) by omega),if_neg (λq=>h q.2)]
  rw [if_pos rfl,if_pos (by omega),if_pos (by omega),Aw.j3,hxe,w1,w2,At (n:=kk) (by omega),hb,hn];by_cases h:kk+x<=S
  ·have e1:upB at_ next x S kk=next.set (kk+x) true:=by unfold upB;rw [if_pos ⟨hb,h⟩]
   rw [if_pos (by simp;omega),if_pos (by omega),if_pos (by omega),if_pos (by omega),if_pos (by omega),AI,if_pos (by omega),if_pos (by omega),if_pos rfl,Rr,<- e1];exact e2 _ (by rw [Fv];exact hn)
  ·have e1:upB at_ next x S kk=next:=by unfold upB;rw [if_neg (λq=>h q.2)]
   rw [if_neg (by simp;omega),if_pos (by omega),if_pos (by omega),if_pos rfl,if_pos (by omega),if_pos (by omega),e1];exact e2 next hn
theorem VL (hS:S<=900) {x i:Nat} (hil:i<l.length) (hi:i<1000) (hxe:rd l (i:Int)=(x:Int)) (hx:1<=x/\x<=60) {at_:List Bool} (ha:at_.length=S+1) {v:Bool}:∀ (d kk:Nat) (next:List Bool),kk+d=S+1->next.length=S+1->
  Ev (λk=>Aw.l1 k l (S:Int) (nxL at_ x S kk d next) ((i+1:Nat):Int)) v->Ev (λk=>Aw.l2 k l (S:Int) at_ (i:Int) next (kk:Int)) v:=by
 intro d
 induction d with
 | zero=>
  intro kk next hk hn h
  refine .s ?_;simp only [Aw.l2];rw [At (n:=i) (by omega)]
  exact .n h
 | succ d ih=>
  intro kk next hk hn h
  have e:nxL at_ x S kk (d+1) next=nxL at_ x S (kk+1) d (down at_ (upB at_ next x S kk) x kk):=by
   unfold nxL;rw [Wu,Wt]
  rw [e] at h;obtain ⟨K,h⟩:=ih (kk+1) _ (by omega) (by rw [GL,Fv];exact hn) h;refine ⟨K+2,λk hk2=>?_⟩
  obtain ⟨m,rfl⟩:∃ m,k=m+2:=⟨k-2,by omega⟩
  exact (UE hS hil hxe hx ha hn (by omega) m).trans (h m (by omega))
theorem VM (hS:S<=900) {at_:List Bool} (ha:at_.length=S+1):∀ (d i:Nat),i+d=S+1->∃ v,Ev (λk=>Aw.l3 k (S:Int) at_ (i:Int)) v/\(v=true↔∃ q,i<=q/\M at_ q):=by
 intro d
 induction d with
 | zero=>
  intro i hi;refine ⟨false,.s ?_,by simp;intro q h1 h2;have:=Np h2;omega⟩;simp only [Aw.l3]
  exact .n (.c rfl)
 | succ d ih=>
  intro i hi;obtain ⟨v,h1,h2⟩:=ih (i+1) (by omega);by_cases hm:M at_ i
  ·refine ⟨true,.s ?_,by simp;exact ⟨i,Wn _,hm⟩⟩;simp only [Aw.l3];exact .o (.o (.o (.t hm (.c rfl))))
  ·refine ⟨v,.s ?_,?_⟩
   ·simp only [Aw.l3];rw [At (n:=i) (by omega)];exact .o (.o (.o (.f hm h1)))
   ·rw [h2];constructor
    ·rintro ⟨p,h3,h4⟩;exact ⟨p,by omega,h4⟩
    ·rintro ⟨p,h3,h4⟩;by_cases hp:p=i
     ·subst hp;exact absurd h4 hm
     ·exact ⟨p,by omega,h4⟩
theorem VK (hr:Ag l) (hS:S<=900):∀ (d i:Nat) (at_:List Bool),i+d=l.length->at_.length=S+1->
  ∃ v,Ev (λk=>Aw.l1 k l (S:Int) at_ (i:Int)) v/\(v=true↔∃ q,M (rch S ((l.drop i).map Int.toNat) at_) q):=by
 have h9:=hr.2;intro d
 induction d with
 | zero=>
  intro i at_ hi ha;obtain ⟨v,h1,h2⟩:=VM hS ha (S+1) 0 (by omega);rw [Wm (by omega)];refine ⟨v,.s ?_,h2.trans ⟨λ⟨p,_,h⟩=>⟨p,h⟩,λ⟨p,h⟩=>⟨p,WC _,h⟩⟩⟩;simp only [Aw.l1]
  exact .n h1
 | succ d ih=>
  intro i at_ hi ha;have hil:i<l.length:=by omega
  have hx:=hr.1 _ (Wk hil);obtain ⟨v,h1,h2⟩:=ih (i+1) (nxt S at_ l[i].toNat) (by omega) (Hh _ _ _);obtain ⟨w0,w1,w⟩:=G7 hS;rw [Wl hil,Wz];refine ⟨v,.s ?_,h2⟩;simp only [Aw.l1];rw [w,Rr];exact .o (.t w0 (.o (VL hS hil (by omega) (by rw [B9 hil];omega) (by omega) ha (S+1) 0 _ (by omega) (by rw [OF]) h1)))
theorem VJ (hr:Ag l) (hS:S<=900):∀ (d i:Nat) (at_:List Bool),i+d=S+1->at_.length=S+1->(∀ q,q<i->M at_ q)->
  ∃ v,Ev (λk=>Aw.l0 k l (S:Int) at_ (i:Int)) v/\(v=true↔fitB l S):=by
 intro d
 induction d with
 | zero=>
  intro i at_ hi ha hm;obtain ⟨v,h1,h2⟩:=VK hr hS l.length 0 at_ (by omega) ha;refine ⟨v,.s ?_,h2.trans ?_⟩
  ·simp only [Aw.l0];exact .n h1
  ·rw [WF];constructor
   ·rintro ⟨q,h⟩;obtain ⟨p,h3,-,h4⟩:=(MY S _ at_ q ha).mp h;exact ⟨p,h3,q,h4⟩
   ·rintro ⟨p,h3,q,h4⟩
    exact ⟨q,(MY S _ at_ q ha).mpr ⟨p,h3,hm p (by omega),h4⟩⟩
 | succ d ih=>
  intro i at_ hi ha hm
  obtain ⟨v,h1,h2⟩:=ih (i+1) (at_.set i true) (by omega) (by rw [List.length_set];exact ha) (λq hq=>by
   unfold M;rw [Fi _ _ _ (by omega)];split
   ·rfl
   ·exact hm q (by omega))
  refine ⟨v,.s ?_,h2⟩;simp only [Aw.l0];rw [At (n:=i) (by omega),Rr];exact .o (.o (.o h1))
theorem QI (hr:Ag l) (hS:S<=900):∃ v,Ev (λk=>Aw.f k l (S:Int)) v/\(v=true↔fitB l S):=by
 obtain ⟨w0,w1,w⟩:=G7 hS;obtain ⟨v,h1,h2⟩:=VJ hr hS (S+1) 0 (List.replicate (S+1) false) (by omega) (by rw [OF]) (λq h=>by omega);refine ⟨v,?_,h2⟩;unfold Aw.f;rw [w,Rr];exact .t w0 (.o h1)
theorem Ub (hr:Ag l) (T:Nat) (hT:(T:Int)=l.sum):∀ (d s:Nat),s+d=T->Num (λk=>Cv.l0 k l (s:Int)) (λk=>Cx.l0 k l (s:Int)):=by
 have hs:=FJ hr;intro d
 induction d with
 | zero=>
  intro s h;obtain rfl:s=T:=by omega
  obtain ⟨v,h1,h2⟩:=QH hr (S:=s) (by omega);obtain ⟨u,h3,h4⟩:=QI hr (S:=s) (by omega)
  have hv:v=true:=by
   have e:steps l (List.replicate l.length false) (0,0,0)=(0+l.sum,0,0+l.sum):=Mc l l.length 0 0 0 hr.1 (Wn _) (Int.le_refl _) rfl rfl;have h5:=NJ l hr (List.replicate l.length false) (by rw [OF]);rw [e] at h5;simp only [Int.zero_add,Int.sub_zero] at h5;rw [<- hT] at h5;exact h1.one h5
  have hu:u=true:=h4.mpr (h2.mp hv);subst hv hu;refine .yes (n:=(s:Int)) (.s ?_) (.s ?_) (Cg (by omega))
  ·simp only [Cv.l0];exact h1.b (.t rfl (.c rfl))
  ·simp only [Cx.l0]
   exact h3.b (.t rfl (.c rfl))
 | succ d ih=>
  intro s h;obtain ⟨v,h1,h2⟩:=QH hr (S:=s) (by omega);obtain ⟨u,h3,h4⟩:=QI hr (S:=s) (by omega);obtain ⟨a,b,ok,g1,g2,g3⟩:=ih (s+1) (by omega)
  cases v with
  | true=>
   have hu:u=true:=h4.mpr (h2.mp rfl);subst hu;refine .yes (n:=(s:Int)) (.s ?_) (.s ?_) (Cg (by omega))
   ·simp only [Cv.l0];exact h1.b (.t rfl (.c rfl))
   ·simp only [Cx.l0]
    exact h3.b (.t rfl (.c rfl))
  | false=>
   have hu:u=false:=by
    cases u with
    | true=>exact absurd (h2.mpr (h4.mp rfl)) (by decide)
    | false=>rfl
   subst hu;refine ⟨a,b,ok,.s ?_,.s ?_,g3⟩
   ·simp only [Cv.l0];rw [At (n:=s) (by omega)];exact h1.b (.f (by decide) g1)
   ·simp only [Cx.l0];rw [At (n:=s) (by omega)];exact h3.b (.f (by decide) g2)
theorem UU (hr:Ag l):Num (λk=>Cv.f k l) (λk=>Cx.f k l):=by
 unfold Cv.f Cx.f;have hs:=FJ hr;obtain ⟨a,b,ok,g1,g2,g3⟩:=Ub hr l.sum.toNat (by omega) l.sum.toNat 0 (by omega);exact ⟨a,b,ok,(ir hr).b (.t rfl g1),(sr hr).b (.t rfl g2),g3⟩
end

end U
namespace U
theorem AB.mono_l:∀ k,(∀ y0 y1,LeO (AB.j0 k y0 y1) (AB.j0 (k+1) y0 y1))/\(∀ y0 y1 y2,LeO (AB.l0 k y0 y1 y2) (AB.l0 (k+1) y0 y1 y2))/\(∀ y0 y1 y2 y3,LeO (AB.l1 k y0 y1 y2 y3) (AB.l1 (k+1) y0 y1 y2 y3))
 | 0=>⟨λ_ _ r h=>by simp [AB.j0] at h,λ_ _ _ r h=>by simp [AB.l0] at h,λ_ _ _ _ r h=>by simp [AB.l1] at h⟩
 | k+1=>by
  obtain ⟨ih0,ih1,ih2⟩:=AB.mono_l k;refine ⟨?_,?_,?_⟩
  ·intro y0 y1;unfold AB.j0
   repeat' first
   | (with_reducible exact ih0 _ _)
   | (with_reducible exact ih1 _ _ _)
   | (with_reducible exact ih2 _ _ _ _)
   | (with_reducible exact LeO.refl _)
   | (with_reducible exact LeO.none _)
   | (with_reducible refine LeO.ite ?_ ?_)
   | (with_reducible refine LeO.bind ?_ (λ_=>?_))
   | exact ih0 _ _
   | exact ih1 _ _ _
   | exact ih2 _ _ _ _
   | exact LeO.none _
   | refine LeO.ite ?_ ?_
   | refine LeO.bind ?_ (λ_=>?_)
  ·intro y0 y1 y2;unfold AB.l0
   repeat' first
   | (with_reducible exact ih0 _ _)
   | (with_reducible exact ih1 _ _ _)
   | (with_reducible exact ih2 _ _ _ _)
   | (with_reducible exact LeO.refl _)
   | (with_reducible exact LeO.none _)
   | (with_reducible refine LeO.ite ?_ ?_)
   | (with_reducible refine LeO.bind ?_ (λ_=>?_))
   | exact ih0 _ _
   | exact ih1 _ _ _
   | exact ih2 _ _ _ _
   | exact LeO.none _
   | refine LeO.ite ?_ ?_
   | refine LeO.bind ?_ (λ_=>?_)
  ·intro y0 y1 y2 y3;unfold AB.l1
   repeat' first
   | (with_reducible exact ih0 _ _)
   | (with_reducible exact ih1 _ _ _)
   | (with_reducible exact ih2 _ _ _ _)
   | (with_reducible exact LeO.refl _)
   | (with_reducible exact LeO.none _)
   | (with_reducible refine LeO.ite ?_ ?_)
   | (with_reducible refine LeO.bind ?_ (λ_=>?_))
   | exact ih0 _ _
   | exact ih1 _ _ _
   | exact ih2 _ _ _ _
   | exact LeO.none _
   | refine LeO.ite ?_ ?_
   | refine LeO.bind ?_ (λ_=>?_)
theorem AB.mono:∀ a0 k,LeO (AB.f k a0) (AB.f (k+1) a0):=by
 intro a0 k;obtain ⟨ih0,ih1,ih2⟩:=AB.mono_l k;unfold AB.f
 repeat' first
   | (with_reducible exact ih0 _ _)
   | (with_reducible exact ih1 _ _ _)
   | (with_reducible exact ih2 _ _ _ _)
   | (with_reducible exact LeO.refl _)
   | (with_reducible exact LeO.none _)
   | (with_reducible refine LeO.ite ?_ ?_)
   | (with_reducible refine LeO.bind ?_ (λ_=>?_))
   | exact ih0 _ _
   | exact ih1 _ _ _
   | exact ih2 _ _ _ _
   | exact LeO.none _
   | refine LeO.ite ?_ ?_
   | refine LeO.bind ?_ (λ_=>?_)
theorem Bd.mono_l:∀ k,(∀ y0 y1 y2,LeO (Bd.l0 k y0 y1 y2) (Bd.l0 (k+1) y0 y1 y2))/\(∀ y0 y1 y2 y3,LeO (Bd.l1 k y0 y1 y2 y3) (Bd.l1 (k+1) y0 y1 y2 y3))
 | 0=>⟨λ_ _ _ r h=>by simp [Bd.l0] at h,λ_ _ _ _ r h=>by simp [Bd.l1] at h⟩
 | k+1=>by
  obtain ⟨ih0,ih1⟩:=Bd.mono_l k;refine ⟨?_,?_⟩
  ·intro y0 y1 y2;unfold Bd.l0
   repeat' first
   | (with_reducible exact ih0 _ _ _)
   | (with_reducible exact ih1 _ _ _ _)
   | (with_reducible exact LeO.refl _)
   | (with_reducible exact LeO.none _)
   | (with_reducible refine LeO.ite ?_ ?_)
   | (with_reducible refine LeO.bind ?_ (λ_=>?_))
   | exact ih0 _ _ _
   | exact ih1 _ _ _ _
   | exact LeO.none _
   | refine LeO.ite ?_ ?_
   | refine LeO.bind ?_ (λ_=>?_)
  ·intro y0 y1 y2 y3;unfold Bd.l1
   repeat' first
   | (with_reducible exact ih0 _ _ _)
   | (with_reducible exact ih1 _ _ _ _)
   | (with_reducible exact LeO.refl _)
   | (with_reducible exact LeO.none _)
   | (with_reducible refine LeO.ite ?_ ?_)
   | (with_reducible refine LeO.bind ?_ (λ_=>?_))
   | exact ih0 _ _ _
   | exact ih1 _ _ _ _
   | exact LeO.none _
   | refine LeO.ite ?_ ?_
   | refine LeO.bind ?_ (λ_=>?_)
theorem Bd.mono:∀ a0 k,LeO (Bd.f k a0) (Bd.f (k+1) a0):=by
 intro a0 k;obtain ⟨ih0,ih1⟩:=Bd.mono_l k;unfold Bd.f
 repeat' first
   | (with_reducible exact ih0 _ _ _)
   | (with_reducible exact ih1 _ _ _ _)
   | (with_reducible exact LeO.refl _)
   | (with_reducible exact LeO.none _)
   | (with_reducible refine LeO.ite ?_ ?_)
   | (with_reducible refine LeO.bind ?_ (λ_=>?_))
   | exact ih0 _ _ _
   | exact ih1 _ _ _ _
   | exact LeO.none _
   | refine LeO.ite ?_ ?_
   | refine LeO.bind ?_ (λ_=>?_)
theorem CX.mono:∀ a0 k,LeO (CX.f k a0) (CX.f (k+1) a0):=by
 intro a0 k;unfold CX.f
 repeat' first
   | (with_reducible exact Bd.mono _ _)
   | (with_reducible exact LeO.refl _)
   | (with_reducible exact LeO.none _)
   | (with_reducible refine LeO.ite ?_ ?_)
   | (with_reducible refine LeO.bind ?_ (λ_=>?_))
   | exact Bd.mono _ _
   | exact LeO.none _
   | refine LeO.ite ?_ ?_
   | refine LeO.bind ?_ (λ_=>?_)

end U
namespace U
def sml (xs:List (List Int)):Prop:=xs.length<=1000/\∀ a∈xs,a≠[]/\a.length<=10/\∀ x∈a,big x
def Lls (F G:Nat->Option (List (List Int)×Bool)):Prop:=∃ xs ys ok,Ev F (xs,ok)/\Ev G (ys,ok)/\(ok=true->xs=ys/\sml xs/\(Lib.join (xs.map (joinN [44])) [32]).length<=1700)
def joinL (xs:List (List Int)):List UInt8:=Lib.join (xs.map (joinN [44])) [32]
theorem I8 {xs:List (List Int)} (h:sml xs):(joinL xs).length<=211*xs.length:=by
 have:=Gf [32] rfl 210 (xs.map (joinN [44])) (λq hq=>by
  obtain ⟨a,ha,rfl⟩:=List.mem_map.mp hq;have h1:=h.2 a ha;have h2:=Ge (sep:=[44]) rfl h1.2.2
  omega)
 rw [NO] at this;exact this
theorem NR (xs:List (List Int)) (a:List Int) (h:xs≠[]):joinL (xs++[a])=joinL xs++[32]++joinN [44] a:=by
 unfold joinL;rw [List.map_append,Wz,List.map_nil,Lb _ _ _ (by simpa using h)]
theorem LZ {xs:List (List Int)} {i:Nat} (h:i<xs.length):EU xs (i:Int)=xs[i]:=by
 unfold EU;rw [Rr,WI,WH h];rfl
theorem Rv {xs:List (List Int)} (h:sml xs) (i:Nat):sml (xs.take i):=⟨by have:=h.1;rw [IT];omega,λa ha=>h.2 a (List.mem_of_mem_take ha)⟩
theorem SU {xs:List (List Int)} (h:sml xs):∀ (d i:Nat) (out:List ByteArray),i+d=xs.length->out=(xs.take i).map (λa=>bytes (joinN [44] a))->
  Ev (λk=>Da.l0 k out xs (xs.length:Int) (i:Int)) (bytes (joinL xs)):=by
 have h1:=h.1;intro d
 induction d with
 | zero=>
  intro i out hi ho;have hl:=I8 h;refine Ev.s ?_;simp only [Da.l0];refine Ev.n (Ev.c ?_);rw [List.take_of_length_le (by omega)] at ho
  have e:out.map (·.data.toList)=xs.map (joinN [44]):=by
   rw [ho,List.map_map];exact List.map_congr_left λn _=>rfl
  unfold strings_Join.f;rw [e,show (⟨#[32]⟩:ByteArray).data.toList=[32] from rfl];have e3:Lib.join (xs.map (joinN [44])) [32]=joinL xs:=rfl;rw [e3,if_pos ⟨by rw [ho,NO];omega,by omega⟩,AI]
  rfl
 | succ d ih=>
  intro i out hi ho;have hil:i<xs.length:=by omega
  have h2:=h.2 _ (Wk hil);have hol:out.length<=1000:=by rw [ho,NO,IT];omega
  refine Ev.s ?_;simp only [Da.l0];rw [LZ hil,At (by omega)];refine Ev.o (Ev.o (Ev.o (Ev.b (ntext (sep:=[44]) rfl h2.2.2 (by omega)) (Ev.o ?_))));refine ih (i+1) _ (by omega) ?_;rw [List.take_succ_eq_append_getElem hil,List.map_append,ho];rfl
theorem QZ {a:List Int} (h:a≠[]):joinN [44] a≠[]:=by
 have g:∀ n,Lib.itoa n≠[]:=λn=>by
  unfold Lib.itoa
  have g2:∀ u,Lib.decDigits u≠[]:=λu=>by
   by_cases hu:u<10
   ·rw [J3 u hu];simp
   ·rw [Mz u hu];simp
  split
  ·simp
  ·exact g2 _
 match a,h with
 | x::r,_=>
  unfold joinN;rw [Wz,Lib.join_cons];exact λe=>g x (List.append_eq_nil_iff.mp e).1
theorem Pu (a:List Int):joinL [a]=joinN [44] a:=by
 unfold joinL;rw [Wz,List.map_nil,Lib.join_one]
theorem SV {xs:List (List Int)} (h:sml xs) (h0:xs≠[]):∀ (d i:Nat),i+d=xs.length->
  Ev (λk=>BR.l0 k xs (bytes (joinL (xs.take i))) (i:Int)) (bytes (joinL xs)++⟨#[10]⟩):=by
 have h1:=h.1;intro d
 induction d with
 | zero=>
  intro i hi;have hl:=I8 h;refine Ev.s ?_;simp only [BR.l0];rw [List.take_of_length_le (by omega)];refine Ev.n (Ev.f ?_ (Ev.t (by rw [A6];omega) (Ev.c rfl)));rw [Lib.toList_data]
  match xs,h0,h with
  | a::r,_,h=>
   intro e;have e:Lib.join ((a::r).map (joinN [44])) [32]=[]:=e;rw [Wz,Lib.join_cons] at e
   exact QZ (h.2 a TO).1 (List.append_eq_nil_iff.mp e).1
 | succ d ih=>
  intro i hi;have hil:i<xs.length:=by omega
  have h2:=h.2 _ (Wk hil);have hl:=I8 (Rv h i);have hz:=Ge (sep:=[44]) rfl h2.2.2;rw [IT] at hl;refine Ev.s ?_;simp only [BR.l0];rw [LZ hil,At (by omega)];have:=ih (i+1) (by omega);rw [List.take_succ_eq_append_getElem hil] at this;refine Ev.o ?_;by_cases hi0:i=0
  ·subst hi0;refine Ev.n (Ev.o (Ev.b (stext (sep:=[44]) rfl h2.2.2 (by omega)) (Ev.t (by rw [A6,A6];omega) ?_)));rw [WE,Ws,Pu] at this;exact this
  ·refine Ev.o (Ev.t (by rw [A6];omega) (Ev.o (Ev.b (stext (sep:=[44]) rfl h2.2.2 (by omega)) (Ev.t (by rw [show (⟨#[32]⟩:ByteArray)=bytes [32] from rfl,Di,A6,A6,IN];simp only [It,IS];omega) ?_))));rw [NR _ _ (λh=>(List.take_eq_nil_iff.1 h).elim hi0 (λh=>h0 h)),<- Di,<- Di] at this;exact this
theorem Two.lists {xs ys:List (List Int)} {ok:Bool} (e:ok=true->xs=ys/\sml xs/\(joinL xs).length<=1700):Two (λk=>Da.f k xs ok) (λk=>BR.f k ys ok):=by
 unfold Da.f BR.f
 cases ok with
 | false=>exact ⟨⟨#[110,111]⟩,by decide,Ev.f (by decide) (Ev.c rfl),Ev.f (by decide) (Ev.c rfl)⟩
 | true=>
  obtain ⟨rfl,h,hl⟩:=e rfl;by_cases h0:xs=[]
  ·subst h0;refine ⟨⟨#[46]⟩,by decide,Ev.t rfl (Ev.t rfl (Ev.c rfl)),Ev.t rfl (.s ?_)⟩;simp only [BR.l0];exact Ev.f (by simp) (Ev.t (by rw [Lib.toList_data]) (Ev.o (Ev.c rfl)))
  ·have h1:=h.1;have:=List.length_pos_iff.mpr h0;exact ⟨bytes (joinL xs),by rw [A6];omega,Ev.t rfl (Ev.n (SU h xs.length 0 [] (by omega) rfl)),Ev.t rfl (SV h h0 xs.length 0 (by omega))⟩
def okL:Option (List (List Int)×Bool)->Bool
 | some (xs,true)=>decide (xs.length<=100)&&xs.all λa=>decide (a.length=3)&&a.all λx=>decide (0<=x)&&decide (x<=60)
 | _=>false
theorem OM {o:Option (List (List Int)×Bool)} (h:okL o=true):∃ xs,o=some (xs,true)/\sml xs/\(joinL xs).length<=1700:=by
 match o,h with
 | some (xs,true),h=>
  simp only [okL,Bool.and_eq_true,Wq,List.all_eq_true] at h;refine ⟨xs,rfl,⟨by omega,λa ha=>⟨λe=>?_,by have:=(h.2 a ha).1;omega,λx hx=>Cg (by have:=(h.2 a ha).2 x hx;omega)⟩⟩,?_⟩
  ·have:=(h.2 a ha).1;rw [e] at this;cases this
  ·have h2:=Gf [32] rfl 9 (xs.map (joinN [44])) (λq hq=>by
    obtain ⟨a,ha,rfl⟩:=List.mem_map.mp hq
    have h3:=Gf [44] rfl 2 (a.map Lib.itoa) (λq hq=>by
     obtain ⟨m,hm,rfl⟩:=List.mem_map.mp hq;have:=(h.2 a ha).2 m hm;have:=(Iv 1 2 m.toNat (by omega) (by omega) (by omega) (by omega)).2;unfold Lib.itoa;rw [if_neg (by omega)]
     exact this)
    rw [NO,(h.2 a ha).1] at h3
    exact h3)
   rw [NO] at h2;unfold joinL;omega
theorem Ts:((List.range 60).all λn=>decide (AB.f 2000 ((n:Int)+1)=CX.f 2000 ((n:Int)+1))&&okL (CX.f 2000 ((n:Int)+1)))=true:=by decide +kernel
theorem T2 {p:Int} (h:1<=p/\p<=60):∃ xs,(sml xs/\(joinL xs).length<=1700)/\Ev (λk=>AB.f k p) (xs,true)/\Ev (λk=>CX.f k p) (xs,true):=by
 have:=List.all_eq_true.mp Ts (p-1).toNat (List.mem_range.mpr (by omega));rw [show (((p-1).toNat:Nat):Int)+1=p by omega,Bool.and_eq_true,Wq] at this;obtain ⟨xs,h1,h2⟩:=OM this.2;exact ⟨xs,h2,⟨2000,λk hk=>Fb (AB.mono p) hk (this.1.trans h1)⟩,⟨2000,λk hk=>Fb (CX.mono p) hk h1⟩⟩
theorem JY {p:Int} (h:¬ (1<=p/\p<=60)):Ev (λk=>AB.f k p) ([],false)/\Ev (λk=>CX.f k p) ([],false):=by
 constructor
 ·unfold AB.f;by_cases h1:p<1
  ·refine .t h1 (.s ?_);simp only [AB.j0];exact .t trivial (.c rfl)
  ·refine .f h1 (.s ?_);simp only [AB.j0];exact .t (by simp;omega) (.c rfl)
 ·unfold CX.f;exact Ev.b (.c (Dv p 1 60)) (.f (by simp;omega) (.c rfl))
theorem VW (p:Int):Lls (λk=>AB.f k p) (λk=>CX.f k p):=by
 by_cases h:1<=p/\p<=60
 ·obtain ⟨xs,h1,h2,h3⟩:=T2 h;exact ⟨xs,xs,true,h2,h3,λ_=>⟨rfl,h1⟩⟩
 ·exact ⟨[],[],false,(JY h).1,(JY h).2,λh=>by cases h⟩
theorem TB (p:Int):Num (λk=>CE.f k p) (λ_=>DK.f p):=by
 unfold CE.f DK.f;by_cases h:1<=p/\p<=60
 ·have e:Int.tmod p 2=p % 2:=Int.tmod_eq_emod_of_nonneg (by omega);rw [e];by_cases h2:p % 2=0
  ·refine .yes (.n (.s ?_)) (Ev.b (.c (Dv p 1 60)) (.t (by simp;omega) (.n (.c rfl)))) (Fw _);simp only [CE.j0];rw [e];exact .f (by simp;omega) (.t h2 (.c rfl))
  ·refine .yes (.n (.s ?_)) (Ev.b (.c (Dv p 1 60)) (.t (by simp;omega) (.o (.c rfl)))) (Fw _);simp only [CE.j0];rw [e];exact .f (by simp;omega) (.f h2 (.c rfl))
 ·refine .no (n:=0) ?_ (Ev.b (.c (Dv p 1 60)) (.f (by simp;omega) (.c rfl)));by_cases h1:p<1
  ·refine .t h1 (.s ?_);simp only [CE.j0];exact .t trivial (.c rfl)
  ·refine .f h1 (.s ?_);simp only [CE.j0];exact .t (by simp;omega) (.c rfl)

end U
end Go.Proofs.YtlgojeodceiglaaGreatDoor.PFnExactExecute
