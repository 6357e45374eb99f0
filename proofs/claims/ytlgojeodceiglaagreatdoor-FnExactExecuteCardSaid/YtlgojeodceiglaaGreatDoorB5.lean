/- Execute: a part of what is shown of the program's Execute and the reference's. -/
import Derived.Test.YtlgojeodceiglaaGreatDoorB4
namespace Go.Proofs.YtlgojeodceiglaaGreatDoor.PFnExactExecute
open Go.RowKit Go.Proofs.YtlgojeodceiglaaGreatDoorW.PrintWords Go.Proofs.YtlgojeodceiglaaGreatDoorW.PrintLast Go.Proofs.YtlgojeodceiglaaGreatDoorW.PrintMore
attribute [local go_sem] WO WQ WS WT WM WN WP WR
set_option linter.unusedVariables false
set_option linter.unusedSimpArgs false
set_option maxRecDepth 100000
set_option maxHeartbeats 0
namespace U
theorem Ao.mono_l:∀ k,(∀ y0 y1 y2 y3,LeO (Ao.l0 k y0 y1 y2 y3) (Ao.l0 (k+1) y0 y1 y2 y3))
 | 0=>λ_ _ _ _ r h=>by simp [Ao.l0] at h
 | k+1=>by
  have ih0:=Ao.mono_l k
  ·intro y0 y1 y2 y3;unfold Ao.l0
   repeat' first
   | (with_reducible exact ih0 _ _ _ _)
   | (with_reducible exact LeO.refl _)
   | (with_reducible exact LeO.none _)
   | (with_reducible refine LeO.ite ?_ ?_)
   | (with_reducible refine LeO.bind ?_ (λ_=>?_))
   | exact ih0 _ _ _ _
   | exact LeO.none _
   | refine LeO.ite ?_ ?_
   | refine LeO.bind ?_ (λ_=>?_)
theorem Ao.mono:∀ a0 a1 k,LeO (Ao.f k a0 a1) (Ao.f (k+1) a0 a1):=by
 intro a0 a1 k;have ih0:=Ao.mono_l k;unfold Ao.f
 repeat' first
   | (with_reducible exact ih0 _ _ _ _)
   | (with_reducible exact LeO.refl _)
   | (with_reducible exact LeO.none _)
   | (with_reducible refine LeO.ite ?_ ?_)
   | (with_reducible refine LeO.bind ?_ (λ_=>?_))
   | exact ih0 _ _ _ _
   | exact LeO.none _
   | refine LeO.ite ?_ ?_
   | refine LeO.bind ?_ (λ_=>?_)
theorem AF.mono:∀ a0 a1 k,LeO (AF.f k a0 a1) (AF.f (k+1) a0 a1):=by
 intro a0 a1 k;unfold AF.f
 repeat' first
   | (with_reducible exact Ao.mono _ _ _)
   | (with_reducible exact LeO.refl _)
   | (with_reducible exact LeO.none _)
   | (with_reducible refine LeO.ite ?_ ?_)
   | (with_reducible refine LeO.bind ?_ (λ_=>?_))
   | exact Ao.mono _ _ _
   | exact LeO.none _
   | refine LeO.ite ?_ ?_
   | refine LeO.bind ?_ (λ_=>?_)
theorem BN.mono_l:∀ k,(∀ y0 y1 y2 y3,LeO (BN.l0 k y0 y1 y2 y3) (BN.l0 (k+1) y0 y1 y2 y3))
 | 0=>λ_ _ _ _ r h=>by simp [BN.l0] at h
 | k+1=>by
  have ih0:=BN.mono_l k
  ·intro y0 y1 y2 y3;unfold BN.l0
   repeat' first
   | (with_reducible exact ih0 _ _ _ _)
   | (with_reducible exact AF.mono _ _ _)
   | (with_reducible exact LeO.refl _)
   | (with_reducible exact LeO.none _)
   | (with_reducible refine LeO.ite ?_ ?_)
   | (with_reducible refine LeO.bind ?_ (λ_=>?_))
   | exact ih0 _ _ _ _
   | exact AF.mono _ _ _
   | exact LeO.none _
   | refine LeO.ite ?_ ?_
   | refine LeO.bind ?_ (λ_=>?_)
theorem BN.mono:∀ a0 k,LeO (BN.f k a0) (BN.f (k+1) a0):=by
 intro a0 k;have ih0:=BN.mono_l k;unfold BN.f
 repeat' first
   | (with_reducible exact ih0 _ _ _ _)
   | (with_reducible exact AF.mono _ _ _)
   | (with_reducible exact LeO.refl _)
   | (with_reducible exact LeO.none _)
   | (with_reducible refine LeO.ite ?_ ?_)
   | (with_reducible refine LeO.bind ?_ (λ_=>?_))
   | exact ih0 _ _ _ _
   | exact AF.mono _ _ _
   | exact LeO.none _
   | refine LeO.ite ?_ ?_
   | refine LeO.bind ?_ (λ_=>?_)

end U
namespace U
def isSol (l:List Int):Prop:=(∀ x∈l,1<=x/\x<=12)/\l.length=6
instance (l:List Int):Decidable (isSol l):=by unfold isSol;infer_instance
section
variable {l:List Int}
theorem VP (hl:l.length<=1000):∀ (d i:Nat),i+d=l.length->Ev (λk=>CM.l0 k l l (l.length:Int) (i:Int)) (decide ((∀ x∈l.drop i,1<=x/\x<=12)/\l.length=6)):=by
 intro d
 induction d with
 | zero=>
  intro i hi;refine .s ?_;simp only [CM.l0];refine .n (.c ?_);rw [Wm (by omega)];congr 1;rw [Bool.eq_iff_iff];simp
  omega
 | succ d ih=>
  intro i hi;have hil:i<l.length:=by omega
  have h:=ih (i+1) (by omega);refine .s ?_;simp only [CM.l0];rw [B9 hil,At (by omega),Wl hil];refine .o (.o (.o ?_));by_cases h1:l[i]<1
  ·exact .t h1 (.c (by rw [Wp];intro h;have:=h.1 l[i] TO;omega))
  ·by_cases h2:l[i]>12
   ·exact .f h1 (.t h2 (.c (by rw [Wp];intro h;have:=h.1 l[i] TO;omega)))
   ·refine .f h1 (.f h2 (h.r (decide_eq_decide.mpr ⟨λg=>⟨λx hx=>?_,g.2⟩,λg=>⟨λx hx=>g.1 x (S2 _ hx),g.2⟩⟩)));rcases Wy.mp hx with rfl | hx
    ·omega
    ·exact g.1 x hx
theorem VQ (hl:l.length<=1000):∀ (d i:Nat),i+d=l.length->Ev (λk=>CN.l0 k l (i:Int)) (decide ((∀ x∈l.drop i,1<=x/\x<=12)/\l.length=6)):=by
 intro d
 induction d with
 | zero=>
  intro i hi;refine .s ?_;simp only [CN.l0];refine .n (.c ?_);rw [Wm (by omega)];congr 1;rw [Bool.eq_iff_iff];simp
  omega
 | succ d ih=>
  intro i hi;have hil:i<l.length:=by omega
  have h:=ih (i+1) (by omega);refine .s ?_;simp only [CN.l0];rw [B9 hil,At (by omega),Wl hil];refine .o (.o (.b (.c (Dv _ 1 12)) ?_));by_cases h1:1<=l[i]/\l[i]<=12
  ·refine .t (by simpa using h1) (h.r (decide_eq_decide.mpr ⟨λg=>⟨λx hx=>?_,g.2⟩,λg=>⟨λx hx=>g.1 x (S2 _ hx),g.2⟩⟩));rcases Wy.mp hx with rfl | hx
   ·exact h1
   ·exact g.1 x hx
  ·exact .f (by simpa using h1) (.c (by rw [Wp];intro h;exact h1 (h.1 l[i] TO)))
theorem isl (hl:l.length<=1000):Ev (λk=>CM.f k l) (decide (isSol l)):=VP hl l.length 0 (by omega)
theorem ssl (hl:l.length<=1000):Ev (λk=>CN.f k l) (decide (isSol l)):=VQ hl l.length 0 (by omega)
theorem MX (h:l.length=6):∃ n,Ej.f l=some n/\D1.f l=some n/\big n:=by
 have e:Ej.f l=D1.f l:=rfl;rw [e];unfold D1.f;rw [if_pos (by omega),if_pos (by omega),if_pos (by omega),if_pos (by omega),if_pos (by omega),if_pos (by omega)];exact ⟨_,rfl,rfl,Fw _⟩
theorem TC (hl:l.length<=1000):Num (λk=>DC.f k l) (λk=>Dg.f k l):=by
 unfold DC.f Dg.f;by_cases h:isSol l
 ·obtain ⟨n,h1,h2,h3⟩:=MX h.2;exact .yes ((isl hl).b (.t (by simpa using h) (.b (.c h1) (.c rfl)))) ((ssl hl).b (.t (by simpa using h) (.b (.c h2) (.c rfl)))) h3
 ·exact .no ((isl hl).b (.f (by simpa using h) (.c rfl))) ((ssl hl).b (.f (by simpa using h) (.c rfl)))
end
def lexL:List Int->List Int->Bool
 | a::r,b::q=>if a=b then lexL r q else decide (a<b)
 | _,_=>false
theorem VA (s t:List Int) (hs:s.length=6) (ht:t.length=6):∀ (d i:Nat),i+d=6->∃ r,Ev (λk=>Bh.l0 k s t s (s.length:Int) (i:Int)) r/\(r<0↔lexL (s.drop i) (t.drop i)=true):=by
 intro d
 induction d with
 | zero=>
  intro i hi;rw [Wm (by omega)];refine ⟨0,.s ?_,by simp [lexL]⟩;simp only [Bh.l0]
  exact .n (.n (.c rfl))
 | succ d ih=>
  intro i hi;obtain ⟨r,h1,h2⟩:=ih (i+1) (by omega)
  have hc:∀ a b:Int,DQ.f a b=some (if a<b then -1 else if a>b then 1 else 0):=λa b=>by
   unfold DQ.f BJ.f;simp only [bne_self_eq_false,AI,Bool.false_eq_true,if_false];split
   ·rfl
   ·split<;>rfl
  rw [Wl (show i<s.length by omega),Wl (show i<t.length by omega),lexL]
  have go:∀ v,(if s[i]=t[i] then Ev (λk=>Bh.l0 k s t s (s.length:Int) ((i+1:Nat):Int)) v else v=if s[i]<t[i] then -1 else 1)->Ev (λk=>Bh.l0 k s t s (s.length:Int) (i:Int)) v:=λv h=>by
   refine .s ?_;simp only [Bh.l0];rw [B9 (show i<s.length by omega),B9 (show i<t.length by omega),hc,At (by omega)];refine .o (.o (.o (.n (.o (.b (.c rfl) ?_)))));by_cases e:s[i]=t[i]
   ·rw [if_pos e] at h;rw [if_neg (by omega),if_neg (by omega)];exact .t rfl h
   ·rw [if_neg e] at h;subst h;by_cases e2:s[i]<t[i]
    ·simp only [if_pos e2];exact .f (by decide) (.c rfl)
    ·simp only [if_neg e2,if_pos (show s[i]>t[i] by omega)];exact .f (by decide) (.c rfl)
  by_cases e:s[i]=t[i]
  ·exact ⟨r,go r (by rw [if_pos e];exact h1),by rw [if_pos e];exact h2⟩
  ·refine ⟨_,go _ (by rw [if_neg e]),?_⟩;rw [if_neg e];by_cases e2:s[i]<t[i]
   ·rw [if_pos e2,Wo e2];simp
   ·rw [if_neg e2,Wp e2];simp
theorem VB (s t:List Int) (hs:s.length=6) (ht:t.length=6):∀ (d i:Nat),i+d=6->Ev (λk=>Dr.l0 k s t (i:Int)) (lexL (s.drop i) (t.drop i)):=by
 intro d
 induction d with
 | zero=>
  intro i hi;rw [Wm (by omega)];refine .s ?_;simp only [Dr.l0]
  exact .n (.c rfl)
 | succ d ih=>
  intro i hi;have h1:=ih (i+1) (by omega);rw [Wl (show i<s.length by omega),Wl (show i<t.length by omega),lexL];refine .s ?_;simp only [Dr.l0];rw [B9 (show i<s.length by omega),B9 (show i<t.length by omega),At (by omega)];exact .o (.o (.o (.i (λ_=>h1) λ_=>.c rfl)))
def prms:List (List Int):=[[0,1,2,3],[0,1,3,2],[0,2,1,3],[0,2,3,1],[0,3,1,2],[0,3,2,1],[1,0,2,3],[1,0,3,2],[1,2,0,3],[1,2,3,0],[1,3,0,2],[1,3,2,0],[2,0,1,3],[2,0,3,1],[2,1,0,3],[2,1,3,0],[2,3,0,1],[2,3,1,0],[3,0,1,2],[3,0,2,1],[3,1,0,2],[3,1,2,0],[3,2,0,1],[3,2,1,0]]
def edg (a b:Int):Nat:=if a=0\/b=0 then (a+b-1).toNat else (a+b).toNat
def nm (s c:List Int):List Int:=[rd s (edg (rd c 0) (rd c 1)),rd s (edg (rd c 0) (rd c 2)),rd s (edg (rd c 0) (rd c 3)),rd s (edg (rd c 1) (rd c 2)),rd s (edg (rd c 1) (rd c 3)),rd s (edg (rd c 2) (rd c 3))]
theorem Wc (s0 s1 s2 s3 s4 s5:Int) (k:Nat):∀ c∈prms,Db.f (k+30) [s0,s1,s2,s3,s4,s5] c=some (nm [s0,s1,s2,s3,s4,s5] c):=by
 intro c hc;simp only [prms,Wy,List.not_mem_nil,or_false] at hc;rcases hc with rfl | rfl | rfl | rfl | rfl | rfl | rfl | rfl | rfl | rfl | rfl | rfl | rfl | rfl | rfl | rfl | rfl | rfl | rfl | rfl | rfl | rfl | rfl | rfl<;>kernel_rfl
theorem Wd (s0 s1 s2 s3 s4 s5:Int) (k:Nat):∀ c∈prms,CC.f (k+30) [s0,s1,s2,s3,s4,s5] c=some (nm [s0,s1,s2,s3,s4,s5] c):=by
 intro c hc;simp only [prms,Wy,List.not_mem_nil,or_false] at hc;rcases hc with rfl | rfl | rfl | rfl | rfl | rfl | rfl | rfl | rfl | rfl | rfl | rfl | rfl | rfl | rfl | rfl | rfl | rfl | rfl | rfl | rfl | rfl | rfl | rfl<;>kernel_rfl
def cI (n:Int):List Int:=[wrap64 (Int.tdiv n 64),Int.tmod (wrap64 (Int.tdiv n 16)) 4,Int.tmod (wrap64 (Int.tdiv n 4)) 4,Int.tmod n 4]
theorem Td:((List.range 256).all λn=>decide (BN.f 30 (cI (n:Int))=some (decide (cI (n:Int)∈prms))))=true:=by decide +kernel
theorem Uv {n:Nat} (h:n<256):Ev (λk=>BN.f k (cI (n:Int))) (decide (cI (n:Int)∈prms)):=⟨30,λk hk=>Fb (BN.mono _) hk (of_decide_eq_true (List.all_eq_true.mp Td n (List.mem_range.mpr h)))⟩
def stp (s b c:List Int):List Int:=if lexL (nm s c) b=true then nm s c else b
theorem NZ (s c:List Int):(nm s c).length=6:=rfl
theorem Md {s b c:List Int} (h:b.length=6):(stp s b c).length=6:=by unfold stp;split;exact NZ s c;exact h
section
variable (s0 s1 s2 s3 s4 s5:Int)
theorem SC:∀ (d n:Nat) (b:List Int),n+d=256->b.length=6->Ev (λk=>B5.l0 k [s0,s1,s2,s3,s4,s5] b (n:Int)) ((((List.range' n d).map λn:Nat=>cI (n:Int)).filter λc=>decide (c∈prms)).foldl (stp [s0,s1,s2,s3,s4,s5]) b):=by
 intro d
 induction d with
 | zero=>
  intro n b hn hb;refine .s ?_;simp only [B5.l0]
  exact .n ((Gc (l:=b) (by omega) (by omega)).b (.c rfl))
 | succ d ih=>
  intro n b hn hb;rw [Wu,Wz];refine .s ?_;simp only [B5.l0];rw [At (n:=n) (by omega)];refine .o (.b (.c rfl) ((Uv (by omega)).b ?_));by_cases hc:cI (n:Int)∈prms
  ·rw [List.filter_cons,if_pos (by simpa using hc),Wt];obtain ⟨r,h1,h2⟩:=VA (nm [s0,s1,s2,s3,s4,s5] (cI (n:Int))) b (NZ _ _) hb 6 0 (by omega);have h3:=ih (n+1) (stp [s0,s1,s2,s3,s4,s5] b (cI (n:Int))) (by omega) (Md hb)
   have hn:Ev (λk=>Db.f k [s0,s1,s2,s3,s4,s5] (cI (n:Int))) (nm [s0,s1,s2,s3,s4,s5] (cI (n:Int))):=⟨30,λk hk=>by
    have:=Wc s0 s1 s2 s3 s4 s5 (k-30) _ hc;rw [show k-30+30=k by omega] at this
    exact this⟩
   refine .t (by simpa using hc) (hn.b (Ev.b h1 ?_));by_cases hr:r<0
   ·have hp:stp [s0,s1,s2,s3,s4,s5] b (cI (n:Int))=nm [s0,s1,s2,s3,s4,s5] (cI (n:Int)):=if_pos (h2.mp hr);rw [hp] at h3 ⊢;exact .t hr h3
   ·have hp:stp [s0,s1,s2,s3,s4,s5] b (cI (n:Int))=b:=if_neg (λh=>hr (h2.mpr h));rw [hp] at h3 ⊢;exact .f hr h3
  ·rw [List.filter_cons,if_neg (by simpa using hc)];exact .f (by simpa using hc) (ih (n+1) b (by omega) hb)
def dI (a b c:Int):List Int:=[a,b,c,wrap64 (wrap64 (wrap64 (6-a)-b)-c)]
theorem Vo:((List.range 4).all λa=>(List.range 4).all λb=>(List.range 4).all λc=>decide (dI (a:Int) (b:Int) (c:Int)∈prms↔¬ ((a:Int)=b\/(a:Int)=c\/(b:Int)=c)))=true:=by decide +kernel
theorem Vp {a b c:Nat} (ha:a<4) (hb:b<4) (hc:c<4):dI (a:Int) (b:Int) (c:Int)∈prms↔¬ ((a:Int)=b\/(a:Int)=c\/(b:Int)=c):=
 of_decide_eq_true (List.all_eq_true.mp (List.all_eq_true.mp (List.all_eq_true.mp Vo a (List.mem_range.mpr ha)) b (List.mem_range.mpr hb)) c (List.mem_range.mpr hc))
def cs2 (a b q d:Nat):List (List Int):=((List.range' q d).map λc:Nat=>dI (a:Int) (b:Int) (c:Int)).filter λc=>decide (c∈prms)
theorem QG {a b:Nat} (ha:a<4) (hb:b<4) {v:List Int}:∀ (d q:Nat) (t:List Int),q+d=4->t.length=6->
  Ev (λk=>AC.l1 k [s0,s1,s2,s3,s4,s5] ((cs2 a b q d).foldl (stp [s0,s1,s2,s3,s4,s5]) t) (a:Int) ((b+1:Nat):Int)) v->Ev (λk=>AC.l2 k [s0,s1,s2,s3,s4,s5] t (a:Int) (b:Int) (q:Int)) v:=by
 intro d
 induction d with
 | zero=>
  intro q t hq ht h;refine .s ?_;simp only [AC.l2];rw [At (n:=b) (by omega)]
  exact .n h
 | succ d ih=>
  intro q t hq ht h;unfold cs2 at h;rw [Wu,Wz] at h;have hiff:=Vp ha hb (show q<4 by omega)
  have skip:Ev (λk=>AC.l2 k [s0,s1,s2,s3,s4,s5] t (a:Int) (b:Int) ((q+1:Nat):Int)) v->Ev (λk=>AC.j3 k [s0,s1,s2,s3,s4,s5] t (a:Int) (b:Int) (q:Int) (wrap64 (wrap64 (wrap64 (6-(a:Int))-b)-q)) true) v:=λh=>by
   refine .s ?_;simp only [AC.j3];rw [At (n:=q) (by omega)];exact .t trivial h
  refine .s ?_;simp only [AC.l2];refine .o ?_;by_cases hc:dI (a:Int) (b:Int) (q:Int)∈prms
  ·rw [List.filter_cons,if_pos (by simpa using hc),Wt] at h;have hne:=hiff.mp hc;have h3:=ih (q+1) (stp [s0,s1,s2,s3,s4,s5] t (dI (a:Int) (b:Int) (q:Int))) (by omega) (Md ht) h
   have hn:Ev (λk=>CC.f k [s0,s1,s2,s3,s4,s5] (dI (a:Int) (b:Int) (q:Int))) (nm [s0,s1,s2,s3,s4,s5] (dI (a:Int) (b:Int) (q:Int))):=⟨30,λk hk=>by
    have:=Wd s0 s1 s2 s3 s4 s5 (k-30) _ hc;rw [show k-30+30=k by omega] at this
    exact this⟩
   refine .f (λe=>hne (.inl e)) (.f (λe=>hne (.inr (.inl e))) (.s ?_));simp only [AC.j3];rw [At (n:=q) (by omega)];refine .f (by simp;intro e;exact hne (.inr (.inr (by omega)))) (hn.b (Ev.b (VB _ t (NZ _ _) ht 6 0 (by omega)) ?_));unfold stp at h3;by_cases hr:lexL (nm [s0,s1,s2,s3,s4,s5] (dI (a:Int) (b:Int) (q:Int))) t=true
   ·rw [if_pos hr] at h3;exact .t hr h3
   ·rw [if_neg hr] at h3;exact .f hr h3
  ·rw [List.filter_cons,if_neg (by simpa using hc)] at h;have h3:=ih (q+1) t (by omega) ht h;have hne:=Decidable.not_not.mp λg=>hc (hiff.mpr g);by_cases e1:(a:Int)=b
   ·exact .t e1 (skip h3)
   ·by_cases e2:(a:Int)=q
    ·exact .f e1 (.t e2 (skip h3))
    ·have e3:(b:Int)=q:=(hne.resolve_left e1).resolve_left e2;refine .f e1 (.f e2 ?_);rw [show ((b:Int)==(q:Int))=true by simpa using e3];exact skip h3
theorem Iy (s:List Int):∀ (cs:List (List Int)) (t:List Int),t.length=6->(cs.foldl (stp s) t).length=6
 | [],_,h=>h
 | c::cs,t,h=>by rw [Wt];exact Iy s cs _ (Md h)
def cs1 (a b d:Nat):List (List Int):=(List.range' b d).flatMap λb=>cs2 a b 0 4
theorem QF {a:Nat} (ha:a<4) {v:List Int}:∀ (d b:Nat) (t:List Int),b+d=4->t.length=6->
  Ev (λk=>AC.l0 k [s0,s1,s2,s3,s4,s5] ((cs1 a b d).foldl (stp [s0,s1,s2,s3,s4,s5]) t) ((a+1:Nat):Int)) v->Ev (λk=>AC.l1 k [s0,s1,s2,s3,s4,s5] t (a:Int) (b:Int)) v:=by
 intro d
 induction d with
 | zero=>
  intro b t hb ht h;refine .s ?_;simp only [AC.l1];rw [At (n:=a) (by omega)]
  exact .n h
 | succ d ih=>
  intro b t hb ht h;unfold cs1 at h;rw [Wu,WD,List.foldl_append] at h;refine .s ?_;simp only [AC.l1];exact .o (QG s0 s1 s2 s3 s4 s5 ha (by omega) 4 0 t (by omega) ht (ih (b+1) _ (by omega) (Iy _ _ _ ht) h))
theorem QE:∀ (d a:Nat) (t:List Int),a+d=4->t.length=6->Ev (λk=>AC.l0 k [s0,s1,s2,s3,s4,s5] t (a:Int)) (((List.range' a d).flatMap λa=>cs1 a 0 4).foldl (stp [s0,s1,s2,s3,s4,s5]) t):=by
 intro d
 induction d with
 | zero=>
  intro a t ha ht;refine .s ?_;simp only [AC.l0]
  exact .n (.c rfl)
 | succ d ih=>
  intro a t ha ht;rw [Wu,WD,List.foldl_append];refine .s ?_;simp only [AC.l0];exact .o (QF s0 s1 s2 s3 s4 s5 (by omega) 4 0 t (by omega) ht (ih (a+1) _ (by omega) (Iy _ _ _ ht)))
theorem Uy:((List.range' 0 256).map λn:Nat=>cI (n:Int)).filter (λc=>decide (c∈prms))=prms:=by decide +kernel
theorem Uz:((List.range' 0 4).flatMap λa=>cs1 a 0 4)=prms:=by decide +kernel
end
theorem OV {s:List Int} (hs:∀ x∈s,big x):∀ (cs:List (List Int)) (t:List Int),(∀ x∈t,big x)->∀ x∈cs.foldl (stp s) t,big x
 | [],_,h=>h
 | c::cs,t,h=>by
  rw [Wt];refine OV hs cs _ ?_
  have hr:∀ i,big (rd s i):=λi=>by
   unfold rd;rw [WI]
   cases e:s[i.toNat]? with
   | none=>exact Cg (by decide)
   | some x=>exact hs x (List.mem_of_getElem? e)
  unfold stp;split
  ·intro x hx;unfold nm at hx;simp only [Wy,List.not_mem_nil,or_false] at hx;rcases hx with rfl | rfl | rfl | rfl | rfl | rfl<;>exact hr _
  ·exact h
theorem Tu {l:List Int} (hl:l.length<=1000):Lst (λk=>DR.f k l) (λk=>Do.f k l):=by
 unfold DR.f Do.f;by_cases h:isSol l
 ·match l,h,hl with
  | [s0,s1,s2,s3,s4,s5],h,hl=>
   have hi:Ev (λk=>B5.f k [s0,s1,s2,s3,s4,s5]) (prms.foldl (stp [s0,s1,s2,s3,s4,s5]) [s0,s1,s2,s3,s4,s5]):=(SC s0 s1 s2 s3 s4 s5 256 0 [s0,s1,s2,s3,s4,s5] (by omega) rfl).r (by rw [Uy])
   have hs:Ev (λk=>AC.f k [s0,s1,s2,s3,s4,s5]) (prms.foldl (stp [s0,s1,s2,s3,s4,s5]) [s0,s1,s2,s3,s4,s5]):=by
    unfold AC.f;exact Ev.b (.c rfl) (.t (by simp) ((QE s0 s1 s2 s3 s4 s5 4 0 _ (by omega) rfl).r (by rw [Uz];rfl)))
   exact .yes ((isl hl).b (.t (by simpa using h) (hi.b (.c rfl)))) ((ssl hl).b (.t (by simpa using h) (hs.b (.c rfl)))) (OV (λx hx=>Cg (by have:=h.1 x hx;omega)) _ _ (λx hx=>Cg (by have:=h.1 x hx;omega))) (by rw [Iy _ _ _ rfl];omega)
  | [],h,_ | [_],h,_ | [_,_],h,_ | [_,_,_],h,_ | [_,_,_,_],h,_ | [_,_,_,_,_],h,_=>exact absurd h.2 (by simp)
  | _::_::_::_::_::_::_::_,h,_=>exact absurd h.2 (by simp)
 ·exact .no ((isl hl).b (.f (by simpa using h) (.c rfl))) ((ssl hl).b (.f (by simpa using h) (.c rfl)))

end U
namespace U
def L3:Nat->Nat->Nat->List (List Int)
 | 0,p,_=>if p=0 then [[]] else []
 | r+1,p,fr=>(List.range' fr (p / (r+1)+1-fr)).flatMap λx=>(L3 r (p-x) x).map ((x:Int)::·)
theorem K9 {α β:Type} (f:α->List β) (B:Nat):∀ xs:List α,(∀ x∈xs,(f x).length<=B)->(xs.flatMap f).length<=xs.length*B
 | [],_=>by simp
 | x::xs,h=>by
  rw [WD,IN,It,Nat.succ_mul];have:=h x TO;have:=K9 f B xs λy hy=>h y (S2 _ hy);omega
theorem Iw {p r:Nat} (h:p<=30):p / (r+1)<=30:=WA (Nat.div_le_self _ _) h
theorem LF:∀ (r p fr:Nat),p<=30->(L3 r p fr).length<=31 ^ r
 | 0,p,fr,_=>by unfold L3;split<;>simp
 | r+1,p,fr,h=>by
  unfold L3
  have h1:=K9 (λx=>(L3 r (p-x) x).map ((x:Int)::·)) (31 ^ r) (List.range' fr (p / (r+1)+1-fr)) λx _=>by
   rw [NO];exact LF r _ _ (by omega)
  rw [List.length_range'] at h1;have h2:=Iw (r:=r) h;have h3:(p / (r+1)+1-fr)*31 ^ r<=31*31 ^ r:=Nat.mul_le_mul_right _ (by omega);rw [Nat.pow_succ,Nat.mul_comm (31 ^ r)];exact WA h1 h3
theorem Nn:∀ (r p fr:Nat),p<=30->1<=fr->∀ ys∈L3 r p fr,ys.length=r/\∀ y∈ys,1<=y/\y<=30
 | 0,p,fr,_,_,ys,h=>by
  unfold L3 at h;split at h
  ·rw [Wx.mp h];exact ⟨rfl,λy hy=>by cases hy⟩
  ·cases h
 | r+1,p,fr,hp,hf,ys,h=>by
  unfold L3 at h;obtain ⟨x,hx,h⟩:=List.mem_flatMap.mp h;obtain ⟨zs,hz,rfl⟩:=List.mem_map.mp h;have hx:=List.mem_range'_1.mp hx;have h2:=Iw (r:=r) hp;obtain ⟨h3,h4⟩:=Nn r (p-x) x (by omega) (by omega) zs hz;refine ⟨by rw [It,h3],λy hy=>?_⟩;rcases Wy.mp hy with rfl | hy
  ·omega
  ·exact h4 y hy
theorem TW (p fr:Nat):L3 1 p fr=if fr<=p then [[(p:Int)]] else []:=by
 have:∀ d x,d=p+1-x->((List.range' x d).flatMap λx=>(L3 0 (p-x) x).map ((x:Int)::·))=if x<=p then [[(p:Int)]] else []:=by
  intro d
  induction d with
  | zero=>
   intro x hd;rw [if_neg (by omega)]
   rfl
  | succ d ih=>
   intro x hd;rw [Wu,WD,ih (x+1) (by omega),show L3 0 (p-x) x=if p-x=0 then [[]] else [] from rfl];by_cases h:x=p
   ·rw [if_pos (show p-x=0 by omega),if_neg (show ¬ x+1<=p by omega),if_pos (show x<=p by omega)];subst h;rfl
   ·rw [if_neg (show ¬ p-x=0 by omega),if_pos (show x+1<=p by omega),if_pos (show x<=p by omega)];rfl
 have h:=this (p+1-fr) fr rfl;rw [show L3 1 p fr=(List.range' fr (p / (0+1)+1-fr)).flatMap λx=>(L3 0 (p-x) x).map ((x:Int)::·) from rfl,show p / (0+1)=p by simp];exact h
theorem Vv (n p x:Nat) (hx:x<=31) (ls:List (List Int)) (hn:∀ a∈ls,a.length<=100) (hl:ls.length<=1000000000) {v:List (List Int)}:∀ (d i:Nat) (acc:List (List Int)),i+d=ls.length->acc.length+d<=10000000000->
  Ev (λk=>Bx.l0 k (n:Int) (p:Int) (acc++(ls.drop i).map ((x:Int)::·)) ((x+1:Nat):Int)) v->Ev (λk=>Bx.l1 k (n:Int) (p:Int) acc (x:Int) ls (i:Int)) v:=by
 intro d
 induction d with
 | zero=>
  intro i acc hi ha h;rw [Wm (by omega),List.map_nil,List.append_nil] at h;refine .s ?_;simp only [Bx.l1];rw [At (n:=x) (by omega)]
  exact .n h
 | succ d ih=>
  intro i acc hi ha h;have hil:i<ls.length:=by omega
  have:=hn _ (Wk hil);rw [Wl hil,Wz,List.append_cons] at h;have h2:=ih (i+1) (acc++[(x:Int)::ls[i]]) (by omega) (by rw [IN];simp only [It,IS];omega) h;refine .s ?_;simp only [Bx.l1];rw [At (n:=i) (by omega),LZ hil];exact .o (.b (.c rfl) (.o (.t (by simp only [It,IS];omega) (.o h2))))
theorem Vw:∀ (r p fr:Nat),r<=6->p<=30->1<=fr->fr<=31->Ev (λk=>Bx.f k (r:Int) (p:Int) (fr:Int)) (L3 r p fr)
 | 0,p,fr,hr,hp,hf,hf2=>by
  refine .s ?_;simp only [Bx.f];refine .t rfl ?_;unfold L3;by_cases h:p=0
  ·rw [if_pos h];exact .o (.c rfl)
  ·rw [if_neg h]
   exact .n (.c rfl)
 | r+1,p,fr,hr,hp,hf,hf2=>by
  have ih:=Vw r;have hq:=Iw (r:=r) hp;have hbig:31 ^ (r+1)<=31 ^ 6:=Nat.pow_le_pow_right (by omega) hr
  have inner:∀ (d x:Nat) (acc:List (List Int)),d=p / (r+1)+1-x->1<=x->x<=31->acc.length+((List.range' x d).flatMap λx=>(L3 r (p-x) x).map ((x:Int)::·)).length<=10000000000->
    Ev (λk=>Bx.l0 k ((r+1:Nat):Int) (p:Int) acc (x:Int)) (acc++((List.range' x d).flatMap λx=>(L3 r (p-x) x).map ((x:Int)::·))):=by
   intro d
   induction d with
   | zero=>
    intro x acc hd h1 h2 ha;have hlt:p<x*(r+1):=(Nat.div_lt_iff_lt_mul (by omega)).mp (by omega);have hm:x*(r+1)<=31*6:=Nat.mul_le_mul h2 hr;refine .s ?_;simp only [Bx.l0];rw [<- Int.natCast_mul,BI (by omega) (by omega),List.range'_zero,List.flatMap_nil,List.append_nil]
    exact .n (.c rfl)
   | succ d ihd=>
    intro x acc hd h1 h2 ha;have hle:x*(r+1)<=p:=(Nat.le_div_iff_mul_le (by omega)).mp (by omega);have hxp:x<=p:=WA (Nat.le_mul_of_pos_right x (by omega)) hle;have hl:=LF r (p-x) x (by omega);have hpow:31 ^ r<=31 ^ 6:=Nat.pow_le_pow_right (by omega) (by omega);rw [Wu,WD,IN,NO] at ha;rw [Wu,WD,<- Wr];have h3:=ihd (x+1) (acc++(L3 r (p-x) x).map ((x:Int)::·)) (by omega) (by omega) (by omega) (by rw [IN,NO];omega);refine .s ?_;simp only [Bx.l0];rw [<- Int.natCast_mul,BI (by omega) (by omega),show wrap64 (((r+1:Nat):Int)-1)=(r:Int) by unfold wrap64;omega,show wrap64 ((p:Int)-(x:Int))=((p-x:Nat):Int) by unfold wrap64;omega];refine .o ((ih (p-x) x (by omega) (by omega) h1 h2).b ?_);refine Vv (r+1) p x h2 (L3 r (p-x) x) (λa ha=>by have:=(Nn r (p-x) x (by omega) h1 a ha).1;omega) (by omega) (L3 r (p-x) x).length 0 acc (by omega) (by omega) ?_;rw [WF];exact h3
  refine .s ?_;simp only [Bx.f];refine .n ((inner (p / (r+1)+1-fr) fr [] rfl hf hf2 ?_).r (by rw [Ws];rfl));have:=LF (r+1) p fr hp;unfold L3 at this;rw [IS];omega
def addC (l:List Int) (m:Int) (ys:List Int):Int:=if gapOf (l++ys)>0 then wrap64 (m+1) else m
theorem KV (l:List Int) (x:Int):∀ (L:List (List Int)) (m:Int),(L.map (x::·)).foldl (addC l) m=L.foldl (addC (l++[x])) m
 | [],_=>rfl
 | y::L,m=>by
  rw [Wz,Wt,Wt,KV l x L];congr 1;unfold addC;rw [Wr];rfl
theorem Su (ls:List (List Int)) (hl:ls.length<=1000000000) (hr:∀ a∈ls,Ag a/\3<=a.length):∀ (d i:Nat) (m:Int),i+d=ls.length->Ev (λk=>Cf.l0 k m ls (i:Int)) ((ls.drop i).foldl (addC []) m,true):=by
 intro d
 induction d with
 | zero=>
  intro i m hi;rw [Wm (by omega)];refine .s ?_;simp only [Cf.l0]
  exact .n (.c rfl)
 | succ d ih=>
  intro i m hi;have hil:i<ls.length:=by omega
  obtain ⟨h1,h3⟩:=hr _ (Wk hil)
  have hs:Ev (λk=>CW.f k ls[i]) (decide (gapOf ls[i]>0)):=⟨_,Gb _ h1 h3⟩
  rw [Wl hil,Wt];refine .s ?_;simp only [Cf.l0];rw [At (n:=i) (by omega),LZ hil];refine .o (.o (hs.b ?_));unfold addC;rw [Ws];by_cases hg:gapOf ls[i]>0
  ·rw [if_pos hg];exact .t (by simpa using hg) (ih (i+1) _ (by omega))
  ·rw [if_neg hg];exact .f (by simpa using hg) (ih (i+1) _ (by omega))
def lowI (l:List Int):Int:=if 0<l.length then rd l (wrap64 ((l.length:Int)-1)) else 1
theorem Q4 {l:List Int} (hx:∀ x∈l,1<=x/\x<=30) (hl:l.length<=6):1<=lowI l/\lowI l<=30:=by
 unfold lowI;split
 ·next h=>
  rw [Eu h (by omega),B9 (by omega)];exact hx _ (Wk _)
 ·omega
theorem Q5 {l:List Int} {x:Int} (hl:l.length<=6):lowI (l++[x])=x:=by
 unfold lowI;have e:(l++[x]).length=l.length+1:=by simp
 rw [if_pos (by omega),e,Eu (by omega) (by omega),show l.length+1-1=l.length by omega,B9 (by omega)];simp
theorem TN {l:List Int} (hl:l.length<=6):Ev (λk=>if 0<l.length then Aj.f k l else some []) l:=by
 by_cases h:0<l.length
 ·exact .t h (Gc h (by omega))
 ·refine .f h (.c ?_)
  match l,h with
  | [],_=>rfl
  | _::_,h=>exact absurd (by simp) h
theorem Wf (n:Nat) (hn:3<=n/\n<=6):∀ (r:Nat) (l:List Int) (q:Nat) (z m:Int),l.length+(r+1)=n->(∀ x∈l,1<=x/\x<=30)->q<=30->Ev (λk=>AL.t (n:Int) k 0 l (q:Int) z m) ((L3 (r+1) q (lowI l).toNat).foldl (addC l) m):=by
 intro r
 induction r with
 | zero=>
  intro l q z m hl hx hq;have hlo:=Q4 hx (by omega);refine .s ?_;simp only [AL.t];rw [show wrap64 ((n:Int)-(l.length:Int))=1 by unfold wrap64;omega];rw [show (if 0<l.length then rd l (wrap64 ((l.length:Int)-1)) else 1)=lowI l from rfl,TW];refine .t rfl ?_;by_cases h:(q:Int)<lowI l
  ·rw [if_neg (by omega)];exact .t h (.c rfl)
  ·rw [if_pos (by omega)]
   have hr:Ag (l++[(q:Int)]):=⟨λx h1=>by
    rcases Ww.mp h1 with h1 | h1
    ·have:=hx x h1;omega
    ·rw [Wx.mp h1]
     omega,by simp,by rw [IN];simp only [It,IS];omega⟩
   have hc:Ev (λk=>CI.f k (l++[(q:Int)])) (decide (gapOf (l++[(q:Int)])>0)):=⟨_,F7 _ hr (by rw [IN];simp only [It,IS];omega)⟩
   refine .f h ((TN (by omega)).b (hc.b (.c ?_)));rw [Wt,List.foldl_nil];unfold addC;by_cases hg:gapOf (l++[(q:Int)])>0
   ·rw [if_pos (by simpa using hg),if_pos hg]
   ·rw [if_neg (by simpa using hg),if_neg hg]
 | succ r ih=>
  intro l q z m hl hx hq;have hlo:=Q4 hx (by omega);have hw:wrap64 ((n:Int)-(l.length:Int))=((r+1+1:Nat):Int):=by unfold wrap64;omega
  have hd30:=Iw (r:=r+1) hq
  have inner:∀ (d x:Nat) (m:Int),d=q / (r+1+1)+1-x->1<=x->x<=31->Ev (λk=>AL.t (n:Int) k 1 l (q:Int) (x:Int) m) (((List.range' x d).flatMap λx=>(L3 (r+1) (q-x) x).map ((x:Int)::·)).foldl (addC l) m):=by
   intro d
   induction d with
   | zero=>
    intro x m hd h1 h2;have hlt:q<x*(r+1+1):=(Nat.div_lt_iff_lt_mul (by omega)).mp (by omega);have hm:x*(r+1+1)<=31*6:=Nat.mul_le_mul h2 (by omega);refine .s ?_;simp only [AL.t];rw [hw,<- Int.natCast_mul,BI (by omega) (by omega)]
    exact .n (.c rfl)
   | succ d ihd=>
    intro x m hd h1 h2;have hle:x*(r+1+1)<=q:=(Nat.le_div_iff_mul_le (by omega)).mp (by omega);have hxp:x<=q:=WA (Nat.le_mul_of_pos_right x (by omega)) hle
    have hx2:∀ y∈l++[(x:Int)],1<=y/\y<=30:=λy hy=>by
     rcases Ww.mp hy with hy | hy
     ·exact hx y hy
     ·rw [Wx.mp hy];omega
    have h3:=ih (l++[(x:Int)]) (q-x) 0 m (by rw [IN];simp only [It,IS];omega) hx2 (by omega);rw [Q5 (by omega),Rr] at h3;have h4:=ihd (x+1) ((L3 (r+1) (q-x) x).foldl (addC (l++[(x:Int)])) m) (by omega) (by omega) (by omega);rw [Wu,WD,List.foldl_append,KV];refine .s ?_;simp only [AL.t];rw [hw,<- Int.natCast_mul,BI (by omega) (by omega),show wrap64 ((q:Int)-(x:Int))=((q-x:Nat):Int) by unfold wrap64;omega,At (n:=x) (by omega)];exact .o ((TN (by omega)).b (h3.b h4))
  refine .s ?_;simp only [AL.t];rw [hw,show (if 0<l.length then rd l (wrap64 ((l.length:Int)-1)) else 1)=lowI l from rfl];refine .n ?_;have:=inner (q / (r+1+1)+1-(lowI l).toNat) (lowI l).toNat m rfl (by omega) (by omega);rw [Int.toNat_of_nonneg (by omega)] at this;exact this
theorem Mq:∀ (L:List (List Int)) (l:List Int) (m:Int),big m->big (L.foldl (addC l) m)
 | [],_,_,h=>h
 | y::L,l,m,h=>by
  rw [Wt];refine Mq L l _ ?_;unfold addC;split
  ·exact Fw _
  ·exact h
theorem Tx (n p:Int):Num (λk=>AL.f k n p) (λk=>Cf.f k n p):=by
 unfold AL.f Cf.f EY.f;by_cases h:3<=n/\n<=6
 ·by_cases h2:1<=p/\p<=30
  ·obtain ⟨a,rfl⟩:∃ a:Nat,n=(a:Int):=⟨n.toNat,by omega⟩
   obtain ⟨q,rfl⟩:∃ q:Nat,p=(q:Int):=⟨p.toNat,by omega⟩
   have hi:=Wf a (by omega) (a-1) [] q 0 0 (by simp;omega) (λx hx=>by cases hx) (by omega);rw [show a-1+1=a by omega,show (lowI []).toNat=1 from rfl] at hi;have hs:=Vw a q 1 (by omega) (by omega) (by omega) (by omega);have hlen:=LF a q 1 (by omega);have hpow:31 ^ a<=31 ^ 6:=Nat.pow_le_pow_right (by omega) (by omega)
   have hc:=Su (L3 a q 1) (by omega) (λb hb=>by
    obtain ⟨g1,g2⟩:=Nn a q 1 (by omega) (by omega) b hb
    exact ⟨⟨λx hx=>by have:=g2 x hx;omega,by omega,by omega⟩,by omega⟩) (L3 a q 1).length 0 0 (by omega)
   rw [WF] at hc;refine .yes (.n (hi.b (.c rfl))) (Ev.b (v:=true) (.c ?_) (.t rfl (hs.b hc))) (Mq _ _ 0 (Cg (by omega)));rw [Dv,Wo (by omega),AI,if_pos rfl,Dv,Wo (by omega)];rfl
  ·refine .no (.o (.c rfl)) (Ev.b (v:=false) (.c ?_) (.f (by decide) (.c rfl)));rw [Dv,Wo (by omega),AI,if_pos rfl,Dv,Wp (by omega)];rfl
 ·refine .no (.o (.c rfl)) (Ev.b (v:=false) (.c ?_) (.f (by decide) (.c rfl)));rw [Dv,Wp (by omega),AI,if_neg (by decide)]

end U
namespace U
section
variable {l:List Int}
theorem P4 (l:List Int) (hl:l.length<=1048576) (k:Nat) (hk:l.length+3000<=k):D0.f k l=some (Il l):=by
 unfold D0.f Il;rw [Ew l hl k (by omega)];simp only [AI,Wq];by_cases hb:AM l
 ·rw [if_pos hb,N9 l hb.1 0 k (by omega),if_pos hb];rfl
 ·rw [if_neg hb,if_neg hb]
theorem Num.of {F G:Nat->Option (Int×Bool)} {v:Int×Bool} (hF:Ev F v) (hG:Ev G v) (hb:v.2=true->big v.1):Num F G:=⟨v.1,v.1,v.2,hF,hG,λh=>⟨rfl,hb h⟩⟩
theorem Txt.of {F G:Nat->Option (ByteArray×Bool)} {v:ByteArray×Bool} (hF:Ev F v) (hG:Ev G v) (hb:v.1.size<=1700):Txt F G:=⟨v.1,v.1,v.2,hF,hG,λ_=>⟨rfl,hb⟩⟩
theorem U5 (hr:Ag l):Num (λk=>AY.f k l) (λk=>D0.f k l):=by
 have h9:=hr.2;refine .of (v:=Il l) (P3 l (by omega)) ⟨_,P4 l (by omega)⟩ λ_=>?_;have:=Oq l h9.2 0;unfold Il;split<;>exact Cg (by simp only;omega)
theorem RN (hr:Ag l):Num (λk=>AN.f k l) (λk=>DH.f k l):=by
 have h9:=hr.2;refine .of (v:=FB l) (Lf l (by omega)) (PB l (by omega)) λ_=>?_;unfold FB;split
 ·have h1:(DM l).foldl (λs x=>mx s (thr x)) 0<=9:=FR thr 9 _ 0 (by omega) λx hx=>by
   unfold thr;exact FR (λx=>x+1) 9 x 0 (by omega) λy hy=>by have:=(ES h9.2 hx).2 y hy;omega
  have h2:∀ (ls:List (List Int)) (n:Int),n<=ls.foldl (λs x=>mx s (thr x)) n:=by
   intro ls
   induction ls with
   | nil=>intro n;exact Int.le_refl _
   | cons z ls ih=>
    intro n;rw [Wt];exact WB (Kk n (thr z)).1 (ih _)
  have:=h2 (DM l) 0;exact Cg (by simp only;omega)
 ·exact Cg (by simp only;omega)
theorem V1 (hr:Ag l):Num (λk=>Bw.f k l) (λk=>Bs.f k l):=by
 have h9:=hr.2;refine .of (v:=twoOf l) ⟨_,NQ l (by omega)⟩ ⟨_,Oc l (by omega)⟩ λ_=>?_;have h1:=RG hr;have h2:=Gp (λm=>decide (finN l (bitsN l.length m)=0)) (2 ^ l.length);rw [FN] at h2;have h3:=pow9 hr;unfold twoOf;split<;>exact Cg (by simp only;omega)
theorem Tz (hr:Ag l):Txt (λk=>Ck.f k l) (λk=>Cl.f k l):=by
 have h9:=hr.2;refine .of (v:=FM l) ⟨_,LP l (by omega)⟩ ⟨_,L8 l (by omega)⟩ ?_;unfold FM;split
 ·split
  ·decide
  ·next hb _=>
   have g1:=Gq hr;have h:=J4 (-gapOf l).toNat;simp only [ByteArray.size_append];rcases Nat.lt_or_ge (-gapOf l).toNat 100 with h1 | h1
   ·have:=h h1;have e:(⟨#[111,112,101,110,32]⟩:ByteArray).size=5:=rfl;omega
   ·have:=(Iv 4 5 (-gapOf l).toNat (by omega) (by omega) (by omega) (by omega)).2;have e:(⟨#[111,112,101,110,32]⟩:ByteArray).size=5:=rfl;have e2:(⟨(Lib.decDigits (-gapOf l).toNat).toArray⟩:ByteArray).size=(Lib.decDigits (-gapOf l).toNat).length:=by simp [ByteArray.size]
    omega
 ·decide
theorem RM (hr:Ag l):Txt (λk=>Dq.f k l) (λk=>Df.f k l):=by
 have h9:=hr.2;refine .of (v:=Gu l) (N2 l (by omega)) (N3 l (by omega)) ?_;unfold Gu;split
 ·next hb=>
  obtain ⟨-,h1,h2⟩:=GP hb;have h3:=M6 _ h2;have e:(⟨(said (EA l).1).toArray⟩:ByteArray).size=(said (EA l).1).length:=by simp [ByteArray.size]
  rw [e];omega
 ·decide
end
theorem Hk {s:ByteArray} {t:T} (h:short s=some t):t.ok/\t.len<=200/\t.text.length<=60:=by
 unfold short at h;split at h
 ·next hs=>
  obtain ⟨u,h1,h2⟩:=By.1 h;split at h2
  ·next hl=>
   cases h2;have:=Gk h1;exact ⟨this.1,hl,by omega⟩
  ·cases h2
 ·cases h
theorem U4 (s:ByteArray):Txt (λk=>CD.f k s) (λk=>Dm.f k s):=by
 have h1:=λk hk=>LB s k hk;have h2:=λk hk=>LA s k hk
 cases e:short s with
 | none=>
  simp only [e] at h1 h2
  exact .no ⟨600,h2⟩ ⟨600,h1⟩
 | some t=>
  simp only [e] at h1 h2;obtain ⟨ho,hl,-⟩:=Hk e;obtain ⟨r,-,hr⟩:=h2 600 (Wn _);refine .yes (n:=r) ⟨600,λk hk=>?_⟩ ⟨600,λk hk=>?_⟩ (by rw [DG ho hr];omega)
  ·obtain ⟨b,g1,g2⟩:=h2 k hk;rw [IE (hr.trans g2.symm)];exact g1
  ·obtain ⟨b,g1,g2⟩:=h1 k hk;rw [IE (hr.trans g2.symm)];exact g1
theorem U3 (s:ByteArray):Txt (λk=>DF.f k s) (λk=>DJ.f k s):=by
 have h1:=λk hk=>KC s k hk;have h2:=λk hk=>KB s k hk
 cases e:Jo s with
 | none=>
  simp only [e] at h1 h2
  exact .no ⟨300,h2⟩ ⟨300,h1⟩
 | some t=>
  simp only [e] at h1 h2
  have hz:t.text.length<=60:=by
   unfold Jo at e;split at e
   ·have:=Gk e;omega
   ·cases e
  obtain ⟨r,-,hr⟩:=h2 300 (Wn _);have hrz:=T.tidy_size t 0 false;refine .yes (n:=r) ⟨300,λk hk=>?_⟩ ⟨300,λk hk=>?_⟩ (by rw [<- BU,hr];omega)
  ·obtain ⟨b,g1,g2⟩:=h2 k hk;rw [IE (hr.trans g2.symm)];exact g1
  ·obtain ⟨b,g1,g2⟩:=h1 k hk;rw [IE (hr.trans g2.symm)];exact g1
theorem VX (s:ByteArray):Prs (λk=>DV.f k s) (λk=>DW.f k s):=by
 have h1:Ev (λk=>DW.f k s) _:=⟨120,Qx s⟩
 have h2:Ev (λk=>DV.f k s) _:=⟨120,Qw s⟩
 cases e:short s with
 | none=>
  simp only [e] at h1 h2
  exact ⟨_,_,_,_,_,h2,h1,λh=>by cases h⟩
 | some t=>
  simp only [e] at h1 h2;obtain ⟨ho,hl,-⟩:=Hk e;obtain ⟨a,b,-⟩:=T.ends_small ho hl;unfold inB at a b;exact ⟨_,_,_,_,_,h2,h1,λ_=>⟨rfl,rfl,Cg (by omega),Cg (by omega)⟩⟩
theorem TE (s:ByteArray):Num (λk=>DE.f k s) (λk=>DI.f k s):=by
 have h1:Ev (λk=>DI.f k s) _:=⟨120,O4 s⟩
 have h2:Ev (λk=>DE.f k s) _:=⟨120,O3 s⟩
 cases e:short s with
 | none=>
  simp only [e] at h1 h2
  exact .no h2 h1
 | some t=>
  simp only [e] at h1 h2;obtain ⟨ho,hl,-⟩:=Hk e;obtain ⟨-,-,c⟩:=T.ends_small ho hl;unfold inB at c;exact .yes h2 h1 (Cg (by omega))
theorem TD (s:ByteArray):∃ v,Ev (λk=>Bi.f k s) v/\Ev (λk=>BD.f k s) v/\big v.1/\big v.2.1/\big v.2.2.1:=by
 refine ⟨Ho s,⟨900,Ok s⟩,⟨900,Ol s⟩,?_⟩;unfold Ho
 cases e:short s with
 | none=>exact ⟨Cg (by simp only;omega),Cg (by simp only;omega),Cg (by simp only;omega)⟩
 | some t=>
  obtain ⟨ho,hl,-⟩:=Hk e;have h:=T.walk_len t ho;have a:=Hn turn t.walk;have b:=Hn rgt t.walk;have c:=Hn opp t.walk;exact ⟨Cg (by simp only;omega),Cg (by simp only;omega),Cg (by simp only;omega)⟩

end U
namespace U
def digs:Nat->List UInt8->Option Nat
 | n,[]=>some n
 | n,c::r=>if 48<=c.toNat/\c.toNat<=57 then digs (n*10+(c.toNat-48)) r else none
def Ik (p:List UInt8):Option Int:=if 1<=p.length/\p.length<=3 then (digs 0 p).map Int.ofNat else none
def nums:List (List UInt8)->Option (List Int)
 | []=>some []
 | p::r=>(Ik p).bind λn=>(nums r).bind λns=>some (n::ns)
def D7 (s:List UInt8):Option (List Int):=nums (CS 32 s)
theorem Gd {s:ByteArray} {i:Nat} (h:i<s.size):∃ b:UInt8,s.data.toList.drop i=b::s.data.toList.drop (i+1)/\bt s (i:Int)=(b.toNat:Int):=by
 have hl:i<s.data.toList.length:=by rw [Dy];exact h
 refine ⟨s.data.toList[i],Wl hl,?_⟩;unfold bt;rw [dif_pos (by simpa using h)];rfl
theorem Pe {s:ByteArray} {i:Nat} (h:s.size<=i):s.data.toList.drop i=[]:=Wm (by rw [Dy];exact h)
theorem KJ {n:Nat} (h:n<=1000000000):wrap64 ((n:Int)+1)=((n+1:Nat):Int):=by unfold wrap64;omega
theorem PH (ps:List ByteArray) (L j:Int) (acc:List Int) (hacc:acc.length<=1000000) (p:ByteArray) (hp:p.size<=3):∀ (d m i n:Nat),i+d=p.size->n<10 ^ i->
  Al.l1 (m+d+1) acc p (n:Int) ps L j (p.size:Int) (i:Int)=(match digs n (p.data.toList.drop i) with
   | none=>some ([],false)
   | some v=>Al.l0 m (acc++[(v:Int)]) ps L (wrap64 (j+1))):=by
 intro d
 induction d with
 | zero=>
  intro m i n hi hn;rw [Pe (by omega),Nat.add_zero,Al.l1,if_neg (by omega),if_pos (by omega)]
  rfl
 | succ d ih=>
  intro m i n hi hn;obtain ⟨c,e1,e2⟩:=Gd (s:=p) (i:=i) (by omega);have hc:=c.toNat_lt
  have hn2:n<1000:=by
   have:10 ^ i<=10 ^ 3:=Nat.pow_le_pow_right (by omega) (by omega);omega
  rw [show m+(d+1)+1=(m+d+1)+1 by omega,Al.l1,if_pos (by omega),if_pos (by omega),if_pos (by omega),e2,e1,digs];by_cases h1:c.toNat<48
  ·rw [if_pos (by omega),if_neg (by omega)]
  ·rw [if_neg (by omega)];by_cases h2:57<c.toNat
   ·rw [if_pos (by omega),if_neg (by omega)]
   ·have hw:wrap64 (wrap64 ((n:Int)*10)+((c.toNat:Int)-48) % 256)=((n*10+(c.toNat-48):Nat):Int):=by
     have e3:wrap64 ((n:Int)*10)=(n:Int)*10:=by unfold wrap64;omega
     have e4:((c.toNat:Int)-48) % 256=(c.toNat:Int)-48:=by omega
     rw [e3,e4];unfold wrap64;omega
    rw [if_neg (by omega),if_pos (by omega),hw,KJ (by omega)]
    have hpow:n*10+(c.toNat-48)<10 ^ (i+1):=by
     rw [Nat.pow_succ];omega
    exact ih m (i+1) _ (by omega) hpow
theorem N4 (ps:List ByteArray) (hl:ps.length<=1000000):∀ (d k j:Nat) (acc:List Int),j+d=ps.length->acc.length=j->6*d+1<=k->
  Al.l0 k acc ps (ps.length:Int) (j:Int)=some (match nums ((ps.drop j).map (·.data.toList)) with
   | some ys=>(acc++ys,true)
   | none=>([],false)):=by
 intro d
 induction d with
 | zero=>
  intro k j acc hj ha hk
  obtain ⟨m,rfl⟩:∃ m,k=m+1:=⟨k-1,by omega⟩
  rw [Al.l0,if_neg (by omega),Wm (by omega)]
  simp [nums]
 | succ d ih=>
  intro k j acc hj ha hk
  obtain ⟨m,rfl⟩:∃ m,k=m+1+1:=⟨k-2,by omega⟩
  have hjl:j<ps.length:=by omega
  have hr:rdOf ByteArray.empty ps (j:Int)=ps[j]:=by simp [rdOf,hjl]
  have hsz:=Dy ps[j];rw [Al.l0,if_pos (by omega),if_pos (by omega),if_pos (by omega),hr,Wl hjl,Wz,nums];unfold Ik;by_cases h1:ps[j].size<1
  ·rw [if_pos (by omega),Al.j1,if_pos rfl,if_neg (by omega)];rfl
  ·rw [if_neg (by omega),Al.j1];by_cases h3:ps[j].size>3
   ·rw [if_pos (by simpa using (by omega:((ps[j].size:Int)>3))),if_neg (by omega)];rfl
   ·rw [if_neg (by simpa using (by omega:¬ ((ps[j].size:Int)>3))),if_pos (by omega)];have g:=PH ps (ps.length:Int) (j:Int) acc (by omega) ps[j] (by omega) ps[j].size (m-ps[j].size-1) 0 0 (by omega) (by simp);rw [show m-ps[j].size-1+ps[j].size+1=m by omega] at g;rw [show ((0:Nat):Int)=0 from rfl] at g;rw [g,WF]
    cases hd:digs 0 ps[j].data.toList with
    | none=>rfl
    | some v=>
     dsimp only;rw [KJ (by omega),ih _ (j+1) (acc++[(v:Int)]) (by omega) (by simp [ha]) (by omega)];simp only [Option.map_some,AI]
     cases nums ((ps.drop (j+1)).map (·.data.toList)) with
     | none=>rfl
     | some ys=>simp
theorem Kn (s:List UInt8) (hs:s.length<=100000) (k:Nat) (hk:6*s.length+8<=k):Al.f k (bytes s)=some (match D7 s with
  | some ys=>(ys,true)
  | none=>([],false)):=by
 have hd:(bytes s).data.toList=s:=by simp [bytes]
 have hpl:=Gs 32 s;unfold Al.f;rw [JF 32 _ (by rw [A6];omega),hd,AI];have h:=N4 ((CS 32 s).map bytes) (by rw [NO];omega) (CS 32 s).length k 0 [] (by rw [NO];omega) rfl (by omega);rw [show ((0:Nat):Int)=0 from rfl] at h;rw [h,WF,List.map_map]
 have e:(CS 32 s).map ((·.data.toList)∘bytes)=CS 32 s:=by
  conv=>rhs;rw [<- List.map_id (CS 32 s)]
  apply List.map_congr_left;intro p _;simp [bytes]
 rw [e];rfl
end U
namespace U
theorem Qv (v b:Nat) (hv:v<=999) (h1:48<=b) (h2:b<=57):wrap64 (wrap64 (10*(v:Int))+(((b:Int)-48) % 256))=((v*10+(b-48):Nat):Int):=by
 have e:((b:Int)-48) % 256=((b-48:Nat):Int):=by omega
 have e2:wrap64 (10*(v:Int))=((v*10:Nat):Int):=by unfold wrap64;omega
 rw [e,e2];unfold wrap64;omega
section
variable {s:ByteArray} (hs:s.size<=100000)
include hs
theorem VO {acc w:List Int} (hacc:acc.length<=200000) {e:Nat} (he:e<=s.size):∀ (d q v:Nat),q+d=e->v<=999/\d<=3/\(d=0\/v<=99)/\(d<=1\/v<=9)/\(d<=2\/v=0)->
  (∀ n:Nat,n<=999->digs v ((s.data.toList.drop q).take d)=some n->Ev (λk=>Ay.l0 k s (acc++[(n:Int)]) ((e+1:Nat):Int) ((e+1:Nat):Int)) w)->
  (digs v ((s.data.toList.drop q).take d)=none->w=[])->Ev (λk=>Ay.l1 k s acc (e:Int) (v:Int) (q:Int)) w:=by
 intro d
 induction d with
 | zero=>
  intro q v hq hv hgo hno;refine .s ?_;simp only [Ay.l1];rw [At (n:=e) (by omega)]
  exact .n (.o (hgo v hv.1 (by rw [WE,digs])))
 | succ d ih=>
  intro q v hq hv hgo hno;obtain ⟨b,h1,h2⟩:=Gd (s:=s) (i:=q) (by omega);rw [h1,List.take_succ_cons,digs] at hgo hno;have hb:b.toNat<256:=b.toNat_lt;refine .s ?_;simp only [Ay.l1];rw [h2];refine .o (.o (.o ?_));by_cases c1:(b.toNat:Int)<48
  ·rw [if_neg (by omega)] at hno;rw [hno rfl];exact .t c1 (.c rfl)
  ·by_cases c2:(b.toNat:Int)>57
   ·rw [if_neg (by omega)] at hno;rw [hno rfl];exact .f c1 (.t c2 (.c rfl))
   ·rw [if_pos (by omega)] at hgo hno;have e1:wrap64 (wrap64 (10*(v:Int))+(((b.toNat:Int)-48) % 256))=((v*10+(b.toNat-48):Nat):Int):=Qv v b.toNat (by omega) (by omega) (by omega);rw [e1,At (n:=q) (by omega)];exact .f c1 (.f c2 (ih (q+1) _ (by omega) (by omega) hgo hno))
theorem Rw {acc w:List Int} (hacc:acc.length<=200000) {fr i:Nat} (hf:fr<=i) (hi:i<=s.size)
  (hgo:∀ n:Nat,n<=999->Ik ((s.data.toList.drop fr).take (i-fr))=some (n:Int)->Ev (λk=>Ay.l0 k s (acc++[(n:Int)]) ((i+1:Nat):Int) ((i+1:Nat):Int)) w)
  (hno:Ik ((s.data.toList.drop fr).take (i-fr))=none->w=[]):Ev (λk=>Ay.j1 k s acc (fr:Int) (i:Int) false) w:=by
 have hl:((s.data.toList.drop fr).take (i-fr)).length=i-fr:=by
  rw [IT,No,Dy];omega
 unfold Ik at hgo hno;rw [hl] at hgo hno;refine .s ?_;simp only [Ay.j1];rw [show wrap64 ((i:Int)-(fr:Int))=((i-fr:Nat):Int) by unfold wrap64;omega];refine .f (by simp) (.b (.c (Dv _ 1 3)) ?_);by_cases hc:1<=i-fr/\i-fr<=3
 ·rw [if_pos hc] at hgo hno;refine .t (by simp;omega) ?_;exact VO hs hacc hi (i-fr) fr 0 (by omega) (by omega) (λn hn h=>hgo n hn (by rw [h];rfl)) (λh=>hno (by rw [h];rfl))
 ·rw [if_neg hc] at hno;rw [hno rfl];exact .f (by simp;omega) (.c rfl)
theorem VN:∀ (d i fr:Nat) (acc:List Int),i+d=s.size->fr<=i->acc.length<=fr->(∀ b∈(s.data.toList.drop fr).take (i-fr),b≠32)->
  Ev (λk=>Ay.l0 k s acc (fr:Int) (i:Int)) (match nums (CS 32 (s.data.toList.drop fr)) with | some xs=>acc++xs | none=>[]):=by
 intro d
 induction d with
 | zero=>
  intro i fr acc hi hf hacc hn;obtain rfl:i=s.size:=by omega
  have e:(s.data.toList.drop fr).take (s.size-fr)=s.data.toList.drop fr:=List.take_of_length_le (by rw [No,Dy];omega);rw [e] at hn;rw [H8 32 _ hn];refine .s ?_;simp only [Ay.l0];refine .o (.n (Rw hs (by omega) hf (Wn _) (λn hn2 h=>?_) (λh=>?_)))
  ·rw [e] at h;rw [nums,h,AI,nums,AI];refine .s ?_;simp only [Ay.l0];exact .n (.c rfl)
  ·rw [e] at h;rw [nums,h]
   rfl
 | succ d ih=>
  intro i fr acc hi hf hacc hn;obtain ⟨b,h1,h2⟩:=Gd (s:=s) (i:=i) (by omega)
  have hsplit:s.data.toList.drop fr=(s.data.toList.drop fr).take (i-fr)++(b::s.data.toList.drop (i+1)):=by
   rw [<- h1]
   conv=>lhs;rw [<- List.take_append_drop (i-fr) (s.data.toList.drop fr)]
   rw [List.drop_drop,show fr+(i-fr)=i by omega]
  refine .s ?_;simp only [Ay.l0];rw [h2];refine .o (.o (.o ?_));by_cases hb:b=32
  ·subst hb;rw [show (((32:UInt8).toNat:Int) != 32)=false from rfl];rw [hsplit,H7 32 _ hn,nums];refine Rw hs (by omega) hf (by omega) (λn hn2 h=>?_) (λh=>?_)
   ·rw [h,AI];refine (ih (i+1) (i+1) (acc++[(n:Int)]) (by omega) (Wn _) (by rw [IN];simp only [It,IS];omega) (by rw [Nat.sub_self,WE];intro b hb;cases hb)).r ?_
    cases nums (CS 32 (s.data.toList.drop (i+1))) with
    | none=>rfl
    | some xs=>simp
   ·rw [h];rfl
  ·have hbn:(((b.toNat:Nat):Int) != 32)=true:=by
    rw [bne_iff_ne];intro e;exact hb (UInt8.toNat_inj.mp (by have:(32:UInt8).toNat=32:=rfl;omega))
   rw [hbn];refine .s ?_;simp only [Ay.j1];rw [At (n:=i) (by omega)];refine .t trivial (ih (i+1) fr acc (by omega) (by omega) hacc ?_);intro c hc;rw [hsplit,show i+1-fr=(i-fr)+1 by omega] at hc
   have hl:((s.data.toList.drop fr).take (i-fr)).length=i-fr:=by
    rw [IT,No,Dy];omega
   rw [List.take_append,hl,show i-fr+1-(i-fr)=1 by omega] at hc;rcases Ww.mp hc with hc | hc
   ·exact hn c (List.mem_of_mem_take hc)
   ·simp only [List.take_succ_cons,WE,Wx] at hc;rw [hc];exact hb
theorem Kp:Ev (λk=>Ay.f k s) ((D7 s.data.toList).getD []):=by
 refine (VN hs s.size 0 0 [] (by omega) (Wn _) (Wn _) (by intro b hb;cases hb)).r ?_;rw [WF];unfold D7;cases nums (CS 32 s.data.toList)<;>rfl
theorem ML:Ev (λk=>Al.f k s) (match D7 s.data.toList with | some ys=>(ys,true) | none=>([],false)):=⟨_,λk hk=>by
 have:=Kn s.data.toList (by rw [Dy];exact hs) k hk;rw [Eg] at this
 exact this⟩
end
theorem UQ {p:List UInt8} {n:Int} (h:Ik p=some n):0<=n:=by
 unfold Ik at h;split at h
 ·obtain ⟨m,-,rfl⟩:=Option.map_eq_some_iff.mp h;exact Int.natCast_nonneg _
 ·cases h

end U
namespace U
theorem Two.lt {f f' g:Nat->Option ByteArray} {c:Prop} [Decidable c] (hc:c) (h:Two f g):Two (λk=>if c then f k else f' k) g:=by simp only [if_pos hc];exact h
theorem Two.lf {f f' g:Nat->Option ByteArray} {c:Prop} [Decidable c] (hc:¬ c) (h:Two f' g):Two (λk=>if c then f k else f' k) g:=by simp only [if_neg hc];exact h
theorem Two.rt {f g g':Nat->Option ByteArray} {c:Prop} [Decidable c] (hc:c) (h:Two f g):Two f (λk=>if c then g k else g' k):=by simp only [if_pos hc];exact h
theorem Two.rf {f g g':Nat->Option ByteArray} {c:Prop} [Decidable c] (hc:¬ c) (h:Two f g'):Two f (λk=>if c then g k else g' k):=by simp only [if_neg hc];exact h
theorem Two.rb {f g:Nat->Option ByteArray} (h:Two f g):Two f (λk=>(g k).bind λt=>some t):=by
 obtain ⟨t,h1,h2,h3⟩:=h;exact ⟨t,h1,h2,h3.b (.c rfl)⟩
theorem Two.rs {f g:Nat->Option ByteArray} (h:Two f (λk=>g (k+1))):Two f g:=by
 obtain ⟨t,h1,h2,h3⟩:=h;exact ⟨t,h1,h2,.s h3⟩
theorem Two.lv {α:Type} {F:Nat->Option α} {f:Nat->α->Option ByteArray} {g:Nat->Option ByteArray} {a:α} (hF:Ev F a) (h:Two (λk=>f k a) g):Two (λk=>(F k).bind (f k)) g:=by
 obtain ⟨t,h1,h2,h3⟩:=h;exact ⟨t,h1,hF.b h2,h3⟩
theorem Two.rv {α:Type} {G:Nat->Option α} {f:Nat->Option ByteArray} {g:Nat->α->Option ByteArray} {a:α} (hG:Ev G a) (h:Two f (λk=>g k a)):Two f (λk=>(G k).bind (g k)):=by
 obtain ⟨t,h1,h2,h3⟩:=h;exact ⟨t,h1,h2,hG.b h3⟩
theorem Two.say (t u:ByteArray) (hu:t++⟨#[10]⟩=u) (ht:t.size<=1700):Two (λ_=>some t) (λ_=>some u):=⟨t,ht,.c rfl,.c (by rw [hu])⟩
theorem DL {F G:Nat->Option (Int×Bool)} (h:Num F G):Two (λk=>(F k).bind λb=>(Cz.f k b.1 b.2).bind λt=>some t) (λk=>(G k).bind λb=>(Bq.f k b.1 b.2).bind λt=>some t):=by
 obtain ⟨n,m,ok,h1,h2,h3⟩:=h;exact .bind h1 h2 (Two.one (λh=>(h3 h).1) (λh=>(h3 h).2)).end_
theorem JW {F G:Nat->Option (List Int×Bool)} (h:Lst F G):Two (λk=>(F k).bind λb=>(C8.f k b.1 b.2).bind λt=>some t) (λk=>(G k).bind λb=>(BG.f k b.1 b.2).bind λt=>some t):=by
 obtain ⟨n,m,ok,h1,h2,h3⟩:=h;exact .bind h1 h2 (Two.told (λh=>(h3 h).1) (λh=>(h3 h).2.1) (λh=>(h3 h).2.2)).end_
theorem Hp {F G:Nat->Option (ByteArray×Bool)} (h:Txt F G):Two (λk=>(F k).bind λb=>(CZ.f b.1 b.2).bind λt=>some t) (λk=>(G k).bind λb=>(CT.f b.1 b.2).bind λt=>some t):=by
 obtain ⟨n,m,ok,h1,h2,h3⟩:=h;exact .bind h1 h2 (Two.written (λh=>(h3 h).1) (λh=>(h3 h).2)).end_
theorem OX {F G:Nat->Option (List (List Int)×Bool)} (h:Lls F G):Two (λk=>(F k).bind λb=>(Da.f k b.1 b.2).bind λt=>some t) (λk=>(G k).bind λb=>(BR.f k b.1 b.2).bind λt=>some t):=by
 obtain ⟨n,m,ok,h1,h2,h3⟩:=h;exact .bind h1 h2 (Two.lists h3).end_
theorem OY {F G:Nat->Option (Int×Int×Bool)} (h:Prs F G):Two (λk=>(F k).bind λb=>(Fk.f k b.1 b.2.1 b.2.2).bind λt=>some t) (λk=>(G k).bind λb=>(BG.f k ([b.1,b.2.1]:List Int) b.2.2).bind λt=>some t):=by
 obtain ⟨a,b,c,d,ok,h1,h2,h3⟩:=h;refine .bind h1 h2 (Two.end_ ?_);unfold Fk.f
 obtain ⟨t,g1,g2,g3⟩:=Two.told (xs:=[a,b]) (ys:=[c,d]) (ok:=ok) (λh=>by rw [(h3 h).1,(h3 h).2.1]) (λh x hx=>by
  simp only [Wy,List.not_mem_nil,or_false] at hx;rcases hx with rfl | rfl
  ·exact (h3 h).2.2.1
  ·exact (h3 h).2.2.2) (λh=>GN (by simp) λx hx=>by
  simp only [Wy,List.not_mem_nil,or_false] at hx;rcases hx with rfl | rfl
  ·exact (h3 h).2.2.1
  ·exact (h3 h).2.2.2)
 exact ⟨t,g1,g2.b (.c rfl),g3⟩
theorem RF {xs ys:List Int} (e:xs=ys) (hb:∀ x∈xs,big x) (h1:xs.length<=80):Two (λk=>(C8.f k xs true).bind λt=>some t) (λk=>(BG.f k ys true).bind λt=>some t):=
 (Two.told (λ_=>e) (λ_=>hb) (λ_=>GN h1 hb)).end_
section
variable {l:List Int}
theorem QM (hr:Ag l):Two (λk=>(AA.f k l).bind λt1=>(if t1=true then ((DN.f k l).bind λt2=>(if t2=true then (some (⟨#[121,101,115]⟩:ByteArray)) else (some (⟨#[110,111,116]⟩:ByteArray)))) else (some (⟨#[110,111]⟩:ByteArray))))
  (λk=>(Ar.f k l).bind λt1=>(if t1=true then ((DO.f k l).bind λt2=>(if t2=true then (some (⟨#[121,101,115,10]⟩:ByteArray)) else (some (⟨#[110,111,116,10]⟩:ByteArray)))) else (some (⟨#[110,111,10]⟩:ByteArray)))):=by
 refine .bind (ib hr) (sb hr) ?_;by_cases hb:AM l
 ·refine .lt (by simpa using hb) (.rt (by simpa using hb) (.bind (Uh hr hb) (Ui hr hb) ?_));by_cases h:((Eo l.length).foldl (addT l) 0==0)=true
  ·exact .lt h (.rt h (.say _ _ rfl (by decide)))
  ·exact .lf h (.rf h (.say _ _ rfl (by decide)))
 ·exact .lf (by simpa using hb) (.rf (by simpa using hb) (.say _ _ rfl (by decide)))
theorem Qm (hr:Ag l) (w:ByteArray) (h1:¬ w.toList=[115,111,114,116]) (h2:¬ w.toList=[98,97,99,107]):Two (λk=>AO.ro k l w) (λk=>Ef.f k l w):=by
 unfold AO.ro Ef.f ER.f;refine .lf h1 (.lf h2 ?_);clear h1 h2;generalize w.toList=W;by_cases e0:W=[115,104,111,119]
 ·subst e0
  repeat (refine Two.lf (by decide) ?_)
  refine Two.lt rfl ?_
  repeat (refine Two.rf (by decide) ?_)
  exact Two.rt rfl (RF rfl (Lm hr) (by have:=hr.2;omega))
 by_cases e1:W=[115,117,109]
 ·subst e1
  repeat (refine Two.lf (by decide) ?_)
  refine Two.lt rfl ?_
  repeat (refine Two.rf (by decide) ?_)
  exact Two.rt rfl (DL (V0 hr))
 by_cases e2:W=[109,97,110,121]
 ·subst e2
  repeat (refine Two.lf (by decide) ?_)
  refine Two.lt rfl ?_
  repeat (refine Two.rf (by decide) ?_)
  exact Two.rt rfl (DL (UZ hr))
 by_cases e3:W=[119,105,100,101,115,116]
 ·subst e3
  repeat (refine Two.lf (by decide) ?_)
  refine Two.lt rfl ?_
  repeat (refine Two.rf (by decide) ?_)
  exact Two.rt rfl (DL (RP hr))
 by_cases e4:W=[102,114,101,101]
 ·subst e4
  repeat (refine Two.lf (by decide) ?_)
  refine Two.lt rfl ?_
  repeat (refine Two.rf (by decide) ?_)
  exact Two.rt rfl (QM hr)
 by_cases e5:W=[107,105,110,100]
 ·subst e5
  repeat (refine Two.lf (by decide) ?_)
  refine Two.lt rfl ?_
  repeat (refine Two.rf (by decide) ?_)
  exact Two.rt rfl (Hp (UY hr))
 by_cases e6:W=[97,114,101,97]
 ·subst e6
  repeat (refine Two.lf (by decide) ?_)
  refine Two.lt rfl ?_
  repeat (refine Two.rf (by decide) ?_)
  exact Two.rt rfl (DL (US hr))
 by_cases e7:W=[104,97,108,102]
 ·subst e7
  repeat (refine Two.lf (by decide) ?_)
  refine Two.lt rfl ?_
  repeat (refine Two.rf (by decide) ?_)
  exact Two.rt rfl (JW (UW hr))
 by_cases e8:W=[103,97,112]
 ·subst e8
  repeat (refine Two.lf (by decide) ?_)
  refine Two.lt rfl ?_
  repeat (refine Two.rf (by decide) ?_)
  exact Two.rt rfl (DL (VZ hr))
 by_cases e9:W=[109,111,115,116]
 ·subst e9
  repeat (refine Two.lf (by decide) ?_)
  refine Two.lt rfl ?_
  repeat (refine Two.rf (by decide) ?_)
  exact Two.rt rfl (DL (U0 hr))
 by_cases e10:W=[112,97,114,116,115]
 ·subst e10
  repeat (refine Two.lf (by decide) ?_)
  refine Two.lt rfl ?_
  repeat (refine Two.rf (by decide) ?_)
  exact Two.rt rfl (JW (Tw hr))
 by_cases e11:W=[102,105,120]
 ·subst e11
  repeat (refine Two.lf (by decide) ?_)
  refine Two.lt rfl ?_
  repeat (refine Two.rf (by decide) ?_)
  exact Two.rt rfl (DL (VY hr))
 by_cases e12:W=[114,101,97,99,104]
 ·subst e12
  repeat (refine Two.lf (by decide) ?_)
  refine Two.lt rfl ?_
  repeat (refine Two.rf (by decide) ?_)
  exact Two.rt rfl (OY (TA hr))
 by_cases e13:W=[104,111,108,100]
 ·subst e13
  repeat (refine Two.lf (by decide) ?_)
  refine Two.lt rfl ?_
  repeat (refine Two.rf (by decide) ?_)
  exact Two.rt rfl (DL (UX hr))
 by_cases e14:W=[119,97,121,115]
 ·subst e14
  repeat (refine Two.lf (by decide) ?_)
  refine Two.lt rfl ?_
  repeat (refine Two.rf (by decide) ?_)
  exact Two.rt rfl (DL (U5 hr))
 by_cases e15:W=[116,104,114,101,101,115]
 ·subst e15
  repeat (refine Two.lf (by decide) ?_)
  refine Two.lt rfl ?_
  repeat (refine Two.rf (by decide) ?_)
  exact Two.rt rfl (DL (RN hr))
 by_cases e16:W=[116,119,111]
 ·subst e16
  repeat (refine Two.lf (by decide) ?_)
  refine Two.lt rfl ?_
  repeat (refine Two.rf (by decide) ?_)
  exact Two.rt rfl (DL (V1 hr))
 by_cases e17:W=[112,114,111,111,102]
 ·subst e17
  repeat (refine Two.lf (by decide) ?_)
  refine Two.lt rfl ?_
  repeat (refine Two.rf (by decide) ?_)
  exact Two.rt rfl (Hp (Tz hr))
 by_cases e18:W=[112,114,111,118,101,100]
 ·subst e18
  repeat (refine Two.lf (by decide) ?_)
  refine Two.lt rfl ?_
  repeat (refine Two.rf (by decide) ?_)
  exact Two.rt rfl (Hp (RM hr))
 by_cases e19:W=[101,110,100,115]
 ·subst e19
  repeat (refine Two.lf (by decide) ?_)
  refine Two.lt rfl ?_
  repeat (refine Two.rf (by decide) ?_)
  refine Two.rb ?_
  repeat (refine Two.rf (by decide) ?_)
  exact Two.rt rfl (JW (UV hr))
 by_cases e20:W=[110,101,97,114]
 ·subst e20
  repeat (refine Two.lf (by decide) ?_)
  refine Two.lt rfl ?_
  repeat (refine Two.rf (by decide) ?_)
  refine Two.rb ?_
  repeat (refine Two.rf (by decide) ?_)
  exact Two.rt rfl (DL (U1 hr))
 by_cases e21:W=[102,111,108,100,115]
 ·subst e21
  repeat (refine Two.lf (by decide) ?_)
  refine Two.lt rfl ?_
  repeat (refine Two.rf (by decide) ?_)
  refine Two.rb ?_
  repeat (refine Two.rf (by decide) ?_)
  exact Two.rt rfl (DL (Tv hr))
 by_cases e22:W=[115,112,97,110]
 ·subst e22
  repeat (refine Two.lf (by decide) ?_)
  refine Two.lt rfl ?_
  repeat (refine Two.rf (by decide) ?_)
  refine Two.rb ?_
  repeat (refine Two.rf (by decide) ?_)
  exact Two.rt rfl (DL (U2 hr))
 by_cases e23:W=[99,97,115,101]
 ·subst e23
  repeat (refine Two.lf (by decide) ?_)
  refine Two.lt rfl ?_
  repeat (refine Two.rf (by decide) ?_)
  refine Two.rb ?_
  repeat (refine Two.rf (by decide) ?_)
  exact Two.rt rfl (DL (UU hr))
 by_cases e24:W=[103,114,101,101,100,121]
 ·subst e24
  repeat (refine Two.lf (by decide) ?_)
  refine Two.lt rfl ?_
  repeat (refine Two.rf (by decide) ?_)
  refine Two.rb ?_
  repeat (refine Two.rf (by decide) ?_)
  exact Two.rt rfl (DL (RL hr))
 by_cases e25:W=[98,101,115,116]
 ·subst e25
  repeat (refine Two.lf (by decide) ?_)
  refine Two.lt rfl ?_
  repeat (refine Two.rf (by decide) ?_)
  refine Two.rb ?_
  repeat (refine Two.rf (by decide) ?_)
  exact Two.rt rfl (Hp (UT hr))
 repeat (refine Two.lf (by assumption) ?_)
 repeat (refine Two.rf (by assumption) ?_)
 refine Two.rb ?_
 repeat (refine Two.rf (by assumption) ?_)
 exact .say _ _ rfl (by decide)
theorem P1 (r:ByteArray):Two (λk=>(Bi.f k r).bind λb=>(C8.f k ([b.1,b.2.1,b.2.2.1]:List Int) b.2.2.2).bind λt=>some t) (λk=>(BD.f k r).bind λb=>(BG.f k ([b.1,b.2.1,b.2.2.1]:List Int) b.2.2.2).bind λt=>some t):=by
 obtain ⟨v,h1,h2,h3,h4,h5⟩:=TD r
 have hb:∀ x∈[v.1,v.2.1,v.2.2.1],big x:=by
  intro x hx;simp only [Wy,List.not_mem_nil,or_false] at hx;rcases hx with rfl | rfl | rfl
  ·exact h3
  ·exact h4
  ·exact h5
 exact .bind h1 h2 (Two.end_ (Two.told (λ_=>rfl) (λ_=>hb) (λ_=>GN (by simp) hb)))
theorem Kl (s:ByteArray):((D7 s.data.toList).getD []).length<=s.size+1:=by
 have h:=Gs 32 s.data.toList;rw [Dy] at h
 have g:∀ (ps:List (List UInt8)) (xs:List Int),nums ps=some xs->xs.length=ps.length:=by
  intro ps
  induction ps with
  | nil=>intro xs h;cases h;rfl
  | cons p ps ih=>
   intro xs h;obtain ⟨n,-,h⟩:=By.1 h;obtain ⟨ns,h1,h⟩:=By.1 h;cases h;rw [It,It,ih ns h1]
 unfold D7
 cases e:nums (CS 32 s.data.toList) with
 | none=>simp
 | some xs=>rw [Option.getD_some,g _ _ e];exact h
theorem Fh (r:ByteArray) (hs:r.size<=900) (m:Nat) (hm:0<m):(∃ L:List Int,L.length=m/\L.length<=1000/\(D7 r.data.toList).getD []=L/\Ev (λk=>Al.f k r) (L,true))\/((D7 r.data.toList).getD []).length≠m/\∃ L ok,Ev (λk=>Al.f k r) (L,ok)/\(ok=true->L.length≠m):=by
 have h:=ML (s:=r) (by omega);have hl:=Kl r
 cases e:D7 r.data.toList with
 | none=>
  rw [e] at h
  exact .inr ⟨by simp;omega,[],false,h,λh=>by cases h⟩
 | some L=>
  rw [e] at h hl;by_cases h2:L.length=m
  ·exact .inl ⟨L,h2,by rw [Option.getD_some] at hl;omega,rfl,h⟩
  ·exact .inr ⟨h2,L,true,h,λ_=>h2⟩
theorem Vc {f:Nat->Option ByteArray} {w r:ByteArray} (hs:r.size<=900) (h:Two f (λk=>Dc.j0 k l w r ((D7 r.data.toList).getD []) (if ((D7 r.data.toList).getD []).length=1 then rd ((D7 r.data.toList).getD []) 0 else -1))):Two f (λk=>Dc.f k l w r):=by
 unfold Dc.f;refine .rv (Kp (by omega)) ?_;by_cases h1:((D7 r.data.toList).getD []).length=1
 ·rw [if_pos h1] at h;exact .rt (by omega) (.rt (by omega) h)
 ·rw [if_neg h1] at h;exact .rf (by omega) h
theorem K0 (hr:Ag l):Ev (λk=>Bc.f k l (-1)) (0,false):=by
 unfold Bc.f;have mj:Ev (λk=>Bc.j0 k l (-1) true) (0,false):=.s (by simp only [Bc.j0];exact .t trivial (.c rfl));by_cases hb:AM l
 ·exact (sb hr).b (.t (by simpa using hb) (.b (.c (Dv (-1) 0 1000)) (by rw [Wp (by omega)];exact mj)))
 ·exact (sb hr).b (.f (by simpa using hb) mj)
theorem Lj:Ev (λ_=>DK.f (-1)) (0,false):=by
 unfold DK.f;exact Ev.b (.c (Dv (-1) 1 60)) (.f (by simp) (.c rfl))
theorem LC:Ev (λk=>AW.f k (-1)) ([],false):=by
 unfold AW.f;exact Ev.b (.c rfl) (Ev.b (.c (Dv (-1) 1 60)) (.f (by simp) (.c rfl)))
theorem Jd {G:Nat->Option (Int×Bool)} {n:Int} (h:Ev G (n,false)):Two (λ_=>some (⟨#[110,111]⟩:ByteArray)) (λk=>(G k).bind λb=>(Bq.f k b.1 b.2).bind λt=>some t):=by
 refine .rv h (.rb ?_);unfold Bq.f BG.f;exact .rb (.rf (by simp) (.say _ _ rfl (by decide)))
theorem Rd {G:Nat->Option (List Int×Bool)} {n:List Int} (h:Ev G (n,false)):Two (λ_=>some (⟨#[110,111]⟩:ByteArray)) (λk=>(G k).bind λb=>(BG.f k b.1 b.2).bind λt=>some t):=by
 refine .rv h (.rb ?_);unfold BG.f;exact .rf (by simp) (.say _ _ rfl (by decide))
theorem LU {G:Nat->Option (List (List Int)×Bool)} {n:List (List Int)} (h:Ev G (n,false)):Two (λ_=>some (⟨#[110,111]⟩:ByteArray)) (λk=>(G k).bind λb=>(BR.f k b.1 b.2).bind λt=>some t):=by
 refine .rv h (.rb ?_);unfold BR.f;exact .rf (by simp) (.say _ _ rfl (by decide))
theorem JV {L:List Int} (hl:L.length<=1000) (h:L.length≠6):Ev (λk=>Dg.f k L) (0,false)/\Ev (λk=>Do.f k L) ([],false):=by
 unfold Dg.f Do.f;exact ⟨(ssl hl).b (.f (by simp;exact λh1=>h h1.2) (.c rfl)),(ssl hl).b (.f (by simp;exact λh1=>h h1.2) (.c rfl))⟩
theorem Rm (hr:Ag l) (w r:ByteArray) (hs:r.size<=900) (hw:w.size<=900) (h1:¬ w.toList=[115,101,116]) (h2:¬ w.toList=[112,117,116]) (h3:¬ w.toList=[100,114,111,112]):Two (λk=>Aq.ro k l w r) (λk=>Dc.f k l w r):=by
 refine Vc hs (Two.rs ?_);have hLl:=Kl r;simp only [Dc.j0];unfold Aq.ro lkm;generalize w.toList=W at *;by_cases e0:W=[119,97,108,107]
 ·subst e0
  repeat (refine Two.lf (by decide) ?_)
  refine Two.lt rfl ?_
  repeat (refine Two.rf (by decide) ?_)
  exact Two.rt rfl (Hp (U4 r))
 by_cases e1:W=[101,110,100]
 ·subst e1
  repeat (refine Two.lf (by decide) ?_)
  refine Two.lt rfl ?_
  repeat (refine Two.rf (by decide) ?_)
  exact Two.rt rfl (OY (VX r))
 by_cases e2:W=[116,119,105,99,101]
 ·subst e2
  repeat (refine Two.lf (by decide) ?_)
  refine Two.lt rfl ?_
  repeat (refine Two.rf (by decide) ?_)
  exact Two.rt rfl (DL (TE r))
 by_cases e3:W=[116,105,100,121]
 ·subst e3
  repeat (refine Two.lf (by decide) ?_)
  refine Two.lt rfl ?_
  repeat (refine Two.rf (by decide) ?_)
  exact Two.rt rfl (Hp (U3 r))
 by_cases e4:W=[116,117,114,110,115]
 ·subst e4
  repeat (refine Two.lf (by decide) ?_)
  refine Two.lt rfl ?_
  repeat (refine Two.rf (by decide) ?_)
  exact Two.rt rfl (P1 r)
 by_cases f0:W=[97,108,108]
 ·subst f0
  repeat (refine Two.lf (by decide) ?_)
  refine Two.lt (by omega) (Two.lf (by decide) ?_)
  repeat (refine Two.rf (by decide) ?_)
  refine Two.rt rfl ?_;rcases Fh r hs 1 (by omega) with ⟨L,hL,hl,e,hi⟩ | ⟨hne,L,ok,hi,hok⟩
  ·rw [e];refine Two.lv hi (Two.lt rfl (Two.lt (by show (L.length:Int)=_;rw [show (L.length:Int)=1 by omega];decide) (Two.lt (by show (0:Int)<(L.length:Int);omega) ?_)))
   repeat (refine Two.lf (by decide) ?_)
   refine Two.lt rfl ?_;rw [if_pos hL];exact (OX (VW _))
  ·refine Two.lv hi ?_;rw [if_neg hne];by_cases ho:ok=true
   ·refine Two.lt ho (Two.lf (λh=>hok ho (by have h2:(L.length:Int)=1:=h.trans (by decide);omega)) ?_);exact LU (JY (p:=-1) (by omega)).2
   ·refine Two.lf ho ?_;exact LU (JY (p:=-1) (by omega)).2
 by_cases f1:W=[114,111,117,110,100]
 ·subst f1
  repeat (refine Two.lf (by decide) ?_)
  refine Two.lt (by omega) (Two.lf (by decide) ?_)
  repeat (refine Two.rf (by decide) ?_)
  refine Two.rt rfl ?_;rcases Fh r hs 1 (by omega) with ⟨L,hL,hl,e,hi⟩ | ⟨hne,L,ok,hi,hok⟩
  ·rw [e];refine Two.lv hi (Two.lt rfl (Two.lt (by show (L.length:Int)=_;rw [show (L.length:Int)=1 by omega];decide) (Two.lt (by show (0:Int)<(L.length:Int);omega) ?_)))
   repeat (refine Two.lf (by decide) ?_)
   refine Two.lt rfl ?_;rw [if_pos hL];exact (DL (TB _))
  ·refine Two.lv hi ?_;rw [if_neg hne];by_cases ho:ok=true
   ·refine Two.lt ho (Two.lf (λh=>hok ho (by have h2:(L.length:Int)=1:=h.trans (by decide);omega)) ?_);exact Jd Lj
   ·refine Two.lf ho ?_;exact Jd Lj
 by_cases f2:W=[119,104,111,108,101]
 ·subst f2
  repeat (refine Two.lf (by decide) ?_)
  refine Two.lt (by omega) (Two.lf (by decide) ?_)
  repeat (refine Two.rf (by decide) ?_)
  refine Two.rt rfl ?_;rcases Fh r hs 1 (by omega) with ⟨L,hL,hl,e,hi⟩ | ⟨hne,L,ok,hi,hok⟩
  ·rw [e];refine Two.lv hi (Two.lt rfl (Two.lt (by show (L.length:Int)=_;rw [show (L.length:Int)=1 by omega];decide) (Two.lt (by show (0:Int)<(L.length:Int);omega) ?_)))
   repeat (refine Two.lf (by decide) ?_)
   refine Two.lt rfl ?_;rw [if_pos hL];exact (OX (TF _))
  ·refine Two.lv hi ?_;rw [if_neg hne];by_cases ho:ok=true
   ·refine Two.lt ho (Two.lf (λh=>hok ho (by have h2:(L.length:Int)=1:=h.trans (by decide);omega)) ?_);exact LU LC
   ·refine Two.lf ho ?_;exact LU LC
 by_cases f3:W=[112,111,108,121,115]
 ·subst f3
  repeat (refine Two.lf (by decide) ?_)
  refine Two.lt (by omega) (Two.lf (by decide) ?_)
  repeat (refine Two.rf (by decide) ?_)
  refine Two.rt rfl ?_;rcases Fh r hs 2 (by omega) with ⟨L,hL,hl,e,hi⟩ | ⟨hne,L,ok,hi,hok⟩
  ·rw [e];refine Two.lv hi (Two.lt rfl (Two.lt (by show (L.length:Int)=_;rw [show (L.length:Int)=2 by omega];decide) (Two.lt (by show (0:Int)<(L.length:Int);omega) ?_)))
   repeat (refine Two.lf (by decide) ?_)
   refine Two.lt rfl ?_;refine Two.lt (by show (1:Int)<(L.length:Int);omega) ?_;refine Two.rt (by omega) (Two.rt (by omega) (Two.rt (by omega) ?_));exact (DL (Tx _ _))
  ·refine Two.lv hi ?_;by_cases ho:ok=true
   ·refine Two.lt ho (Two.lf (λh=>hok ho (by have h2:(L.length:Int)=2:=h.trans (by decide);omega)) ?_);exact Two.rf (by omega) (.say _ _ rfl (by decide))
   ·refine Two.lf ho ?_;exact Two.rf (by omega) (.say _ _ rfl (by decide))
 by_cases f4:W=[99,104,97,105,110]
 ·subst f4
  repeat (refine Two.lf (by decide) ?_)
  refine Two.lt (by omega) (Two.lf (by decide) ?_)
  repeat (refine Two.rf (by decide) ?_)
  refine Two.rt rfl ?_;rcases Fh r hs 1 (by omega) with ⟨L,hL,hl,e,hi⟩ | ⟨hne,L,ok,hi,hok⟩
  ·rw [e];refine Two.lv hi (Two.lt rfl (Two.lt (by show (L.length:Int)=_;rw [show (L.length:Int)=1 by omega];decide) (Two.lt (by show (0:Int)<(L.length:Int);omega) ?_)))
   repeat (refine Two.lf (by decide) ?_)
   refine Two.lt rfl ?_;rw [if_pos hL];exact (DL (Tt hr _))
  ·refine Two.lv hi ?_;rw [if_neg hne];by_cases ho:ok=true
   ·refine Two.lt ho (Two.lf (λh=>hok ho (by have h2:(L.length:Int)=1:=h.trans (by decide);omega)) ?_);exact Jd (K0 hr)
   ·refine Two.lf ho ?_;exact Jd (K0 hr)
 by_cases f5:W=[115,111,108,105,100]
 ·subst f5
  repeat (refine Two.lf (by decide) ?_)
  refine Two.lt (by omega) (Two.lf (by decide) ?_)
  repeat (refine Two.rf (by decide) ?_)
  refine Two.rt rfl ?_;rcases Fh r hs 6 (by omega) with ⟨L,hL,hl,e,hi⟩ | ⟨hne,L,ok,hi,hok⟩
  ·rw [e];refine Two.lv hi (Two.lt rfl (Two.lt (by show (L.length:Int)=_;rw [show (L.length:Int)=6 by omega];decide) (Two.lt (by show (0:Int)<(L.length:Int);omega) ?_)))
   repeat (refine Two.lf (by decide) ?_)
   refine Two.lt rfl ?_;exact (DL (TC hl))
  ·refine Two.lv hi ?_;by_cases ho:ok=true
   ·refine Two.lt ho (Two.lf (λh=>hok ho (by have h2:(L.length:Int)=6:=h.trans (by decide);omega)) ?_);exact Jd (JV (by omega) hne).1
   ·refine Two.lf ho ?_;exact Jd (JV (by omega) hne).1
 by_cases f6:W=[102,105,114,115,116]
 ·subst f6
  repeat (refine Two.lf (by decide) ?_)
  refine Two.lt (by omega) (Two.lf (by decide) ?_)
  repeat (refine Two.rf (by decide) ?_)
  refine Two.rt rfl ?_;rcases Fh r hs 6 (by omega) with ⟨L,hL,hl,e,hi⟩ | ⟨hne,L,ok,hi,hok⟩
  ·rw [e];refine Two.lv hi (Two.lt rfl (Two.lt (by show (L.length:Int)=_;rw [show (L.length:Int)=6 by omega];decide) (Two.lt (by show (0:Int)<(L.length:Int);omega) ?_)))
   repeat (refine Two.lf (by decide) ?_)
   exact (JW (Tu hl))
  ·refine Two.lv hi ?_;by_cases ho:ok=true
   ·refine Two.lt ho (Two.lf (λh=>hok ho (by have h2:(L.length:Int)=6:=h.trans (by decide);omega)) ?_);exact Rd (JV (by omega) hne).2
   ·refine Two.lf ho ?_;exact Rd (JV (by omega) hne).2
 repeat (refine Two.lf (by assumption) ?_)
 refine Two.lt (by omega) (Two.lt (by repeat (rw [if_neg (by assumption)])) ?_)
 repeat (refine Two.rf (by assumption) ?_)
 exact .say _ _ rfl (by decide)
end

end U
end Go.Proofs.YtlgojeodceiglaaGreatDoor.PFnExactExecute
