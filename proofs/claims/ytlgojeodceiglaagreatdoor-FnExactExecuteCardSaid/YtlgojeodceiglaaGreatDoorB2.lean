/- Execute: a part of what is shown of the program's Execute and the reference's. -/
import Derived.Test.YtlgojeodceiglaaGreatDoorB1
namespace Go.Proofs.YtlgojeodceiglaaGreatDoor.PFnExactExecute
open Go.RowKit Go.Proofs.YtlgojeodceiglaaGreatDoorW.PrintWords Go.Proofs.YtlgojeodceiglaaGreatDoorW.PrintLast Go.Proofs.YtlgojeodceiglaaGreatDoorW.PrintMore
attribute [local go_sem] WO WQ WS WT WM WN WP WR
set_option linter.unusedVariables false
set_option linter.unusedSimpArgs false
set_option maxRecDepth 100000
set_option maxHeartbeats 0
namespace U
def pf (l:List Int) (t:Int):Nat->Nat->List Nat
 | 0,_=>[]
 | d+1,i=>if rd l (i:Int)=t then i::pf l t d (i+1) else pf l t d (i+1)
def places (l:List Int) (t:Int):List Nat:=pf l t l.length 0
theorem UA {l:List Int} {x:Int} {i:Nat} (h:i<l.length):rd (l++[x]) (i:Int)=rd l (i:Int):=by
 rw [B9 h,B9 (by simp;omega),List.getElem_append_left h]
theorem MZ (l:List Int) (x:Int):rd (l++[x]) (l.length:Int)=x:=by
 rw [B9 (by simp)];simp
theorem Ri (l:List Int) (x t:Int):∀ d i,i+d=l.length->pf (l++[x]) t (d+1) i=pf l t d i++if x=t then [l.length] else []
 | 0,i,h=>by
  have:i=l.length:=by omega
  subst this;simp only [pf];rw [MZ]
  split<;>simp
 | d+1,i,h=>by
  rw [pf,UA (by omega),Ri l x t d (i+1) (by omega),pf];split<;>simp
theorem EH (l:List Int) (x t:Int):places (l++[x]) t=places l t++if x=t then [l.length] else []:=by
 have:=Ri l x t l.length 0 (by omega);unfold places;rw [IN];exact this
theorem Rj (l:List Int) (t:Int):∀ d i,i+d=l.length->∀ j∈pf l t d i,j<l.length
 | 0,i,h,j,hj=>by simp [pf] at hj
 | d+1,i,h,j,hj=>by
  rw [pf] at hj;split at hj
  ·rcases Wy.mp hj with rfl | hj
   ·omega
   ·exact Rj l t d (i+1) (by omega) j hj
  ·exact Rj l t d (i+1) (by omega) j hj
theorem Li {l:List Int} {t:Int} {j:Nat} (h:j∈places l t):j<l.length:=Rj l t l.length 0 (by omega) j h
def tri (x y z:Int):Bool:=decide (x<y+z)&&(decide (y<x+z)&&decide (z<x+y))
def three:List Int->Bool
 | [x,y,z]=>tri x y z
 | _=>false
def selOf (a l:List Int) (t:Int):List Int:=(places l t).map λj:Nat=>rd a (j:Int)
def fits (a l:List Int) (m:Nat):Bool:=(List.range m).all λt=>three (selOf a l (t:Int))
def gen (a:List Int):Nat->List Int->Nat->List (List Int)
 | 0,l,m=>if fits a l m=true then [l] else []
 | d+1,l,m=>(List.range' 0 (m+2)).flatMap λe:Nat=>if (places l ((e:Int)-1)).length=3/\0<e then [] else gen a d (l++[(e:Int)-1]) (if e=m+1 then m+1 else m)
def DM (a:List Int):List (List Int):=gen a a.length [] 0
theorem GS {a l:List Int} {m:Nat}:fits a l m=true↔∀ t,t<m->three (selOf a l (t:Int))=true:=by
 simp [fits,List.all_eq_true]
theorem Jy (a:List Int):∀ (d:Nat) (l:List Int) (m:Nat) (x:List Int),x∈gen a d l m->x.length=l.length+d
 | 0,l,m,x,h=>by
  rw [gen] at h;split at h
  ·simp at h;subst h;rfl
  ·simp at h
 | d+1,l,m,x,h=>by
  rw [gen,List.mem_flatMap] at h;obtain ⟨e,he,h⟩:=h;split at h
  ·simp at h
  ·have:=Jy a d _ _ x h;simp at this;omega
theorem Kj (a:List Int):∀ (d:Nat) (l:List Int) (m:Nat) (x:List Int),x∈gen a d l m->(∀ y∈l,-1<=y/\y<m)->∃ m',m<=m'/\m'<=m+d/\(∀ y∈x,-1<=y/\y<(m':Nat))/\fits a x m'=true
 | 0,l,m,x,h,hl=>by
  rw [gen] at h;split at h
  ·next hf=>simp at h;subst h;exact ⟨m,Wn _,by omega,hl,hf⟩
  ·simp at h
 | d+1,l,m,x,h,hl=>by
  rw [gen,List.mem_flatMap] at h;obtain ⟨e,he,h⟩:=h;simp only [List.mem_range'_1] at he;split at h
  ·simp at h
  ·obtain ⟨m',h1,h2,h3⟩:=Kj a d _ _ x h (λy hy=>by
    rcases Ww.mp hy with hy | hy
    ·have:=hl y hy;split<;>omega
    ·simp at hy;subst hy
     split<;>omega)
   exact ⟨m',by split at h1<;>omega,by split at h2<;>omega,h3⟩
theorem FT (a:List Int):∀ (d:Nat) (l:List Int) (m:Nat),m+d<=9->(gen a d l m).length<=11 ^ d
 | 0,l,m,h=>by
  rw [gen]
  split<;>simp
 | d+1,l,m,h=>by
  have key:∀ (c e:Nat),((List.range' e c).flatMap λe:Nat=>if (places l ((e:Int)-1)).length=3/\0<e then [] else gen a d (l++[(e:Int)-1]) (if e=m+1 then m+1 else m)).length<=c*11 ^ d:=by
   intro c
   induction c with
   | zero=>intro e;simp
   | succ c ih=>
    intro e;rw [Wu,WD,IN,Nat.add_mul,Nat.one_mul,Nat.add_comm];have h1:=ih (e+1)
    have h2:(if (places l ((e:Int)-1)).length=3/\0<e then [] else gen a d (l++[(e:Int)-1]) (if e=m+1 then m+1 else m)).length<=11 ^ d:=by
     split
     ·simp
     ·exact FT a d _ _ (by split<;>omega)
    omega
  have:=key (m+2) 0;rw [gen];refine WA this ?_;rw [Nat.pow_succ,Nat.mul_comm];exact Nat.mul_le_mul_left _ (by omega)
theorem pow11 {d:Nat} (h:d<=9):11 ^ d<=2357947691:=WA (Nat.pow_le_pow_right (by omega) h) (by decide)

end U
namespace U
theorem Ai.t0 {S:Type} (step:S->List Int->Option S) (k:Nat) (a l:List Int) (m i:Int) (s:S):Ai.t step (k+1) 0 a l m i s=if (l.length:Int)=(a.length:Int) then ((AZ.f k a l m).bind λb=>if b=true then step s l else some s) else Ai.t step k 1 a l m (-1) s:=rfl
theorem Ai.t1 {S:Type} (step:S->List Int->Option S) (k:Nat) (a l:List Int) (m i:Int) (s:S):Ai.t step (k+1) 1 a l m i s=if i<=m then (if 0<=i then ((BB.f k l i).bind λc=>if c=3 then Ai.t step k 1 a l m (wrap64 (i+1)) s else Ai.t step k 2 a l m i s) else Ai.t step k 2 a l m i s) else some s:=rfl
theorem Ai.t2 {S:Type} (step:S->List Int->Option S) (k d:Nat) (a l:List Int) (m i:Int) (s:S):Ai.t step (k+1) (d+2) a l m i s=if l.length<1000 then ((if i=m then Ai.t step k 0 a (l++[i]) (wrap64 (m+1)) 0 s else Ai.t step k 0 a (l++[i]) m 0 s).bind λs'=>Ai.t step k 1 a l m (wrap64 (i+1)) s') else none:=rfl
theorem Ss (l:List Int) (t:Int) (hl:l.length<=1000):∀ (d k i:Nat) (c:Nat),i+d=l.length->d+1<=k->c<=i->
  BB.l0 k t (c:Int) l (l.length:Int) (i:Int)=some ((c+(pf l t d i).length:Nat):Int):=by
 intro d
 induction d with
 | zero=>
  intro k i c hi hk hc
  obtain ⟨m,rfl⟩:∃ m,k=m+1:=⟨k-1,by omega⟩
  rw [BB.l0,if_neg (by omega)]
  simp [pf]
 | succ d ih=>
  intro k i c hi hk hc
  obtain ⟨m,rfl⟩:∃ m,k=m+1:=⟨k-1,by omega⟩
  rw [BB.l0,if_pos (by omega),if_pos (by omega),if_pos (by omega),At (n:=i) (by omega),pf];split
  ·rw [At (by omega),ih m (i+1) (c+1) (by omega) (by omega) (by omega)];simp only [It];congr 2;omega
  ·rw [ih m (i+1) c (by omega) (by omega) (by omega)]
theorem Mx (l:List Int) (t:Int) (hl:l.length<=1000) (k:Nat) (hk:l.length+1<=k):BB.f k l t=some ((places l t).length:Int):=by
 have:=Ss l t hl l.length k 0 0 (by omega) hk (by omega);unfold BB.f places;simpa using this
theorem Nb (x y z:Int) (hx:1<=x/\x<=60) (hy:1<=y/\y<=60) (hz:1<=z/\z<=60) (k:Nat) (hk:4<=k):DS.f k x y z=some (tri x y z):=by
 unfold DS.f tri;rw [EG [x,y,z] (by simp) k (by simpa using hk),Wo (show Ag [x,y,z] from ⟨by intro w hw;simp at hw;rcases hw with rfl | rfl | rfl<;>assumption,by simp,by simp⟩)];simp only [AI];rw [if_pos trivial,show wrap64 (y+z)=y+z by unfold wrap64;omega,show wrap64 (x+z)=x+z by unfold wrap64;omega,show wrap64 (x+y)=x+y by unfold wrap64;omega];by_cases h1:x<y+z
 ·rw [if_pos h1,Wo h1];by_cases h2:y<x+z
  ·rw [if_pos h2,Wo h2];rfl
  ·rw [if_neg h2,Wp h2];rfl
 ·rw [if_neg h1,Wp h1];rfl
theorem Ug (a l:List Int) (t:Nat) (m:Int) (ha:∀ x∈a,1<=x/\x<=60) (hl:l.length=a.length) (h9:a.length<=9):∀ (d k i:Nat) (acc:List Int),i+d=l.length->d+5<=k->acc.length<=i->(∀ x∈acc,1<=x/\x<=60)->
  ∃ k',k'+d+1=k/\AZ.l1 k a l (t:Int) acc m (t:Int) l (l.length:Int) (i:Int)=if three (acc++(pf l (t:Int) d i).map (λj:Nat=>rd a (j:Int)))=true then AZ.l0 k' a l m (wrap64 ((t:Int)+1)) else some false:=by
 intro d
 induction d with
 | zero=>
  intro k i acc hi hk hc hacc
  obtain ⟨k',rfl⟩:∃ m,k=m+1:=⟨k-1,by omega⟩
  refine ⟨k',by omega,?_⟩;rw [AZ.l1,if_neg (by omega)];simp only [pf,List.map_nil,List.append_nil];by_cases h3:(acc.length:Int)=3
  ·rw [if_pos h3,if_pos (by omega),if_pos (by omega),if_pos (by omega)]
   match acc,h3,hacc with
   | [x,y,z],_,hacc=>
    have e0:rd [x,y,z] 0=x:=rfl;have e1:rd [x,y,z] 1=y:=rfl;have e2:rd [x,y,z] 2=z:=rfl;rw [e0,e1,e2,Nb x y z (hacc x (by simp)) (hacc y (by simp)) (hacc z (by simp)) k' (by omega)];rfl
  ·rw [if_neg h3,if_neg]
   match acc,h3 with
   | [],_=>simp [three]
   | [x],_=>simp [three]
   | [x,y],_=>simp [three]
   | [x,y,z],h3=>simp at h3
   | x::y::z::w::r,_=>simp [three]
 | succ d ih=>
  intro k i acc hi hk hc hacc
  obtain ⟨q,rfl⟩:∃ m,k=m+1:=⟨k-1,by omega⟩
  rw [AZ.l1,if_pos (by omega),if_pos (by omega),if_pos (by omega),At (n:=i) (by omega),pf];have hia:i<a.length:=by omega
  split
  ·rw [if_pos (by omega),if_pos (by omega)]
   obtain ⟨k',h1,h2⟩:=ih q (i+1) (acc++[rd a (i:Int)]) (by omega) (by omega) (by simp;omega) (λx hx=>by
    rcases Ww.mp hx with hx | hx
    ·exact hacc x hx
    ·simp at hx;subst hx;rw [B9 hia]
     exact ha _ (Wk hia))
   refine ⟨k',by omega,?_⟩;rw [h2];simp
  ·obtain ⟨k',h1,h2⟩:=ih q (i+1) acc (by omega) (by omega) (by omega) hacc;exact ⟨k',by omega,h2⟩
theorem Pk {d q k' n:Nat} (hk:20*(d+1)+20<=q+1) (h1:k'+n+1=q) (h9:n<=9):20*d+20<=k':=by omega
theorem Uf (a l:List Int) (m:Nat) (ha:∀ x∈a,1<=x/\x<=60) (hl:l.length=a.length) (h9:a.length<=9) (hm:m<=9):∀ (d k t:Nat),t+d=m->20*d+20<=k->
  AZ.l0 k a l (m:Int) (t:Int)=some ((List.range' t d).all λt=>three (selOf a l (t:Int))):=by
 intro d
 induction d with
 | zero=>
  intro k t ht hk
  obtain ⟨q,rfl⟩:∃ m,k=m+1:=⟨k-1,by omega⟩
  rw [AZ.l0,if_neg (by omega)]
  rfl
 | succ d ih=>
  intro k t ht hk
  obtain ⟨q,rfl⟩:∃ m,k=m+1:=⟨k-1,by omega⟩
  have b1:l.length+5<=q:=by omega
  have ht':t+1+d=m:=by omega
  have hw:=At (n:=t) (by omega);have hlt:(t:Int)<(m:Int):=by omega
  obtain ⟨k',h1,h2⟩:=Ug a l t (m:Int) ha hl h9 l.length q 0 [] (Nat.zero_add _) b1 (Wn _) (λ_ h=>by cases h);have hk':20*d+20<=k':=Pk hk h1 (hl▸h9);rw [AZ.l0,if_pos hlt];rw [show ((0:Nat):Int)=0 from rfl] at h2;rw [h2,Ws,Wu,List.all_cons];have e:(pf l (t:Int) l.length 0).map (λj:Nat=>rd a (j:Int))=selOf a l (t:Int):=rfl;rw [e]
  cases h:three (selOf a l (t:Int)) with
  | true=>
   rw [if_pos rfl,hw,ih k' (t+1) ht' hk']
   simp
  | false=>rw [if_neg (by decide)];simp
theorem Pl (a l:List Int) (m:Nat) (ha:∀ x∈a,1<=x/\x<=60) (hl:l.length=a.length) (h9:a.length<=9) (hm:m<=9) (k:Nat) (hk:300<=k):AZ.f k a l (m:Int)=some (fits a l m):=by
 have:=Uf a l m ha hl h9 hm m k 0 (by omega) (by omega);unfold AZ.f fits;rw [show ((0:Nat):Int)=0 from rfl] at this;rw [this,List.range_eq_range']
def GJ (a:List Int) (d:Nat) (l:List Int) (m e:Nat):List (List Int):=if (places l ((e:Int)-1)).length=3/\0<e then [] else gen a d (l++[(e:Int)-1]) (if e=m+1 then m+1 else m)
theorem Lh {S:Type} (a:List Int) (ha:∀ x∈a,1<=x/\x<=60) (h9:a.length<=9) (stp:S->List Int->S):∀ (d:Nat) (l:List Int) (m:Nat),l.length+d=a.length->m<=l.length->
  ∃ K,∀ k,K<=k->∀ (step:S->List Int->Option S) (s:S),(∀ s xs,xs∈gen a d l m->step s xs=some (stp s xs))->Ai.t step k 0 a l (m:Int) 0 s=some ((gen a d l m).foldl stp s)
 | 0,l,m,hd,hm=>by
  refine ⟨301,λk hk step s hs=>?_⟩
  obtain ⟨q,rfl⟩:∃ m,k=m+1:=⟨k-1,by omega⟩
  rw [Ai.t0,if_pos (by omega),Pl a l m ha (by omega) h9 (by omega) q (by omega)];simp only [AI];rw [gen] at hs ⊢
  cases h:fits a l m with
  | true=>
   rw [h,if_pos rfl] at hs;rw [if_pos rfl,if_pos rfl,hs s l (by simp)]
   rfl
  | false=>rw [if_neg (by decide),if_neg (by decide)];rfl
 | d+1,l,m,hd,hm=>by
  have loop:∀ (c e:Nat),e+c=m+2->∃ K,∀ k,K<=k->∀ (step:S->List Int->Option S) (s:S),(∀ s xs,xs∈(List.range' e c).flatMap (GJ a d l m)->step s xs=some (stp s xs))->
    Ai.t step k 1 a l (m:Int) ((e:Int)-1) s=some (((List.range' e c).flatMap (GJ a d l m)).foldl stp s):=by
   intro c
   induction c with
   | zero=>
    intro e he;refine ⟨1,λk hk step s hs=>?_⟩
    obtain ⟨q,rfl⟩:∃ m,k=m+1:=⟨k-1,by omega⟩
    rw [Ai.t1,if_neg (by omega)]
    rfl
   | succ c ih=>
    intro e he;obtain ⟨K1,h1⟩:=ih (e+1) (by omega);obtain ⟨K2,h2⟩:=Lh a ha h9 stp d (l++[(e:Int)-1]) (if e=m+1 then m+1 else m) (by simp;omega) (by simp;split<;>omega);refine ⟨K1+K2+1100,λk hk step s hs=>?_⟩
    obtain ⟨q,rfl⟩:∃ m,k=m+2:=⟨k-2,by omega⟩
    rw [Wu,WD] at hs ⊢;rw [List.foldl_append];have hw:wrap64 ((e:Int)-1+1)=((e+1:Nat):Int)-1:=by unfold wrap64;omega
    have g1:=λq hq s=>h1 q hq step s (λs xs hx=>hs s xs (List.mem_append_right _ hx))
    have body:¬ ((places l ((e:Int)-1)).length=3/\0<e)->Ai.t step (q+1) 2 a l (m:Int) ((e:Int)-1) s=some (((List.range' (e+1) c).flatMap (GJ a d l m)).foldl stp ((GJ a d l m e).foldl stp s)):=by
     intro hb;have e2:GJ a d l m e=gen a d (l++[(e:Int)-1]) (if e=m+1 then m+1 else m):=by unfold GJ;rw [if_neg hb]
     have g2:=h2 q (by omega) step s (λs xs hx=>hs s xs (List.mem_append_left _ (by rw [e2];exact hx)));rw [Ai.t2 step q 0,if_pos (by omega),hw];by_cases hem:e=m+1
     ·rw [if_pos (by omega),show wrap64 ((m:Int)+1)=((m+1:Nat):Int) by unfold wrap64;omega];rw [if_pos hem] at g2;rw [g2];simp only [AI];rw [g1 q (by omega),e2,if_pos hem]
     ·rw [if_neg (by omega)];rw [if_neg hem] at g2;rw [g2];simp only [AI];rw [g1 q (by omega),e2,if_neg hem]
    rw [Ai.t1 step (q+1),if_pos (by omega)];by_cases h0:0<e
    ·rw [if_pos (by omega),Mx l _ (by omega) (q+1) (by omega)];simp only [AI];by_cases hc:(places l ((e:Int)-1)).length=3
     ·rw [if_pos (by omega),hw,g1 (q+1) (by omega)];have e2:GJ a d l m e=[]:=by unfold GJ;rw [if_pos ⟨hc,h0⟩]
      rw [e2];rfl
     ·rw [if_neg (by omega)];exact body (λx=>hc x.1)
    ·rw [if_neg (by omega)];exact body (λx=>h0 x.2)
  obtain ⟨K,h⟩:=loop (m+2) 0 (by omega);refine ⟨K+1,λk hk step s hs=>?_⟩
  obtain ⟨q,rfl⟩:∃ m,k=m+1:=⟨k-1,by omega⟩
  rw [Ai.t0,if_neg (by omega)];have:=h q (by omega) step s hs;rw [show ((0:Nat):Int)-1 = -1 from rfl] at this;exact this
theorem GZ {S:Type} (a:List Int) (hr:Ag a) (stp:S->List Int->S):∃ K,∀ k,K<=k->∀ (step:S->List Int->Option S) (s:S),(∀ s xs,xs∈DM a->step s xs=some (stp s xs))->Ai.f step k a s=some ((DM a).foldl stp s):=by
 obtain ⟨K,h⟩:=Lh a hr.1 hr.2.2 stp a.length [] 0 (by simp) (by simp);refine ⟨K,λk hk step s hs=>?_⟩;unfold Ai.f;rw [if_pos (by have:=hr.2.2;omega)];exact h k hk step s hs

end U
namespace U
theorem We (l:List Int) (t:Int) (hl:l.length<=1000):∀ (d k i:Nat) (acc:List Int),i+d=l.length->d+1<=k->acc.length<=i->
  Ds.l0 k l t acc (i:Int)=some (acc++(pf l t d i).map (λj:Nat=>(j:Int))):=by
 intro d
 induction d with
 | zero=>
  intro k i acc hi hk hc
  obtain ⟨m,rfl⟩:∃ m,k=m+1:=⟨k-1,by omega⟩
  rw [Ds.l0,if_neg (by omega)]
  simp [pf]
 | succ d ih=>
  intro k i acc hi hk hc
  obtain ⟨m,rfl⟩:∃ m,k=m+1:=⟨k-1,by omega⟩
  rw [Ds.l0,if_pos (by omega),if_pos (by omega),At (n:=i) (by omega),pf];split
  ·rw [if_pos (by omega),ih m (i+1) _ (by omega) (by omega) (by simp;omega)];simp
  ·exact ih m (i+1) acc (by omega) (by omega) (by omega)
theorem IG (l:List Int) (t:Int) (hl:l.length<=1000) (k:Nat) (hk:l.length+1<=k):Ds.f k l t=some ((places l t).map (λj:Nat=>(j:Int))):=by
 have:=We l t hl l.length k 0 [] (by omega) hk (by simp);unfold Ds.f places;simpa using this

end U
namespace U
theorem F8 (x y z:Int) (hx:1<=x/\x<=60) (hy:1<=y/\y<=60) (hz:1<=z/\z<=60):Ca.f x y z=some (tri x y z):=by
 unfold Ca.f tri;rw [show wrap64 (y+z)=y+z by unfold wrap64;omega,show wrap64 (x+z)=x+z by unfold wrap64;omega,show wrap64 (x+y)=x+y by unfold wrap64;omega];by_cases h1:x<y+z
 ·rw [if_pos h1,Wo h1];by_cases h2:y<x+z
  ·rw [if_pos h2,Wo h2];rfl
  ·rw [if_neg h2,Wp h2];rfl
 ·rw [if_neg h1,Wp h1];rfl

end U
namespace U
def Good (a l:List Int) (m:Nat):Prop:=∀ t:Nat,t<m->(places l (t:Int)).length=3->three (selOf a l (t:Int))=true
theorem Gi (a l:List Int) (x t:Int):selOf a (l++[x]) t=selOf a l t++if x=t then [rd a (l.length:Int)] else []:=by
 unfold selOf;rw [EH,List.map_append];split<;>rfl
theorem Jj (a l:List Int) (t:Int):(selOf a l t).length=(places l t).length:=by simp [selOf]
theorem OC (a:List Int):∀ (d:Nat) (l:List Int) (m t:Nat),t<m->(places l (t:Int)).length=3->three (selOf a l (t:Int))=false->gen a d l m=[]
 | 0,l,m,t,ht,h3,hb=>by
  rw [gen,if_neg];intro h;rw [GS] at h;rw [h t ht] at hb
  cases hb
 | d+1,l,m,t,ht,h3,hb=>by
  rw [gen,List.flatMap_eq_nil_iff];intro e he;split
  ·rfl
  ·next hs=>
   have hne:¬ ((e:Int)-1=(t:Int)):=by
    intro h;refine hs ⟨by rw [h];exact h3,by omega⟩
   refine OC a d _ _ t (by split<;>omega) ?_ ?_
   ·rw [EH,if_neg hne,List.append_nil];exact h3
   ·rw [Gi,if_neg hne,List.append_nil];exact hb
theorem OS (a l:List Int) (t:Int) (ha:∀ x∈a,1<=x/\x<=60) (hl:l.length<a.length) (_h9:a.length<=9) (h:(places l t).length=2) :
  ∃ p0 p1:Nat,places l t=[p0,p1]/\p0<a.length/\p1<a.length/\selOf a l t++[rd a (l.length:Int)]=[rd a p0,rd a p1,rd a (l.length:Int)]/\(1<=rd a p0/\rd a p0<=60)/\(1<=rd a p1/\rd a p1<=60)/\(1<=rd a (l.length:Int)/\rd a (l.length:Int)<=60):=by
 match hp:places l t,h with
 | [p0,p1],_=>
  have h0:p0<l.length:=Li (t:=t) (by rw [hp];simp);have h1:p1<l.length:=Li (t:=t) (by rw [hp];simp)
  have key:∀ j:Nat,j<a.length->1<=rd a (j:Int)/\rd a (j:Int)<=60:=λj hj=>by
   rw [B9 hj];exact ha _ (Wk hj)
  refine ⟨p0,p1,rfl,by omega,by omega,?_,key p0 (by omega),key p1 (by omega),key l.length (by omega)⟩;unfold selOf;rw [hp];rfl
theorem Jp {xs:List Int} (h:three xs=true):xs.length=3:=by
 match xs,h with
 | [x,y,z],_=>rfl

end U
namespace U
theorem SQ (a l:List Int) (m:Nat) (hl:l.length<=9) (hm:m<=9) (hg:Good a l m):∀ (d k t:Nat),t+d=m->d+20<=k->
  AR.l0 k l (m:Int) (t:Int)=some (if (List.range' t d).all (λt=>three (selOf a l (t:Int)))=true then [l] else []):=by
 intro d
 induction d with
 | zero=>
  intro k t ht hk
  obtain ⟨q,rfl⟩:∃ q,k=q+1:=⟨k-1,by omega⟩
  rw [AR.l0,if_neg (by omega)];simp only [AI,Ws,IS];rw [if_pos (by omega)]
  rfl
 | succ d ih=>
  intro k t ht hk
  obtain ⟨q,rfl⟩:∃ q,k=q+1:=⟨k-1,by omega⟩
  rw [AR.l0,if_pos (by omega),IG l t (by omega) q (by omega)];simp only [AI,NO];have hw:=At (n:=t) (by omega);have ht':t+1+d=m:=by omega
  have hk':d+20<=q:=by omega
  by_cases h3:(places l (t:Int)).length=3
  ·rw [if_pos (by omega),hw,ih q (t+1) ht' hk',Wu,List.all_cons,hg t (by omega) h3,Bool.true_and]
  ·have:three (selOf a l (t:Int))=false:=by
    cases h:three (selOf a l (t:Int)) with
    | true=>exact absurd (by rw [<- Jj a];exact Jp h) h3
    | false=>rfl
   rw [if_neg (by omega),Wu,List.all_cons,this];simp
theorem S8 {t m:Nat} (h:t<=m):mx (m:Int) ((t+1:Nat):Int)=((if t+1=m+1 then m+1 else m:Nat):Int):=by
 unfold mx;split<;>split<;>omega
theorem Ja (a:List Int) (ha:∀ x∈a,1<=x/\x<=60) (h9:a.length<=9):∀ (d:Nat) (l:List Int) (m:Nat),l.length+d=a.length->m<=l.length->Good a l m->
  ∃ K,∀ k,K<=k->AR.f k a l (m:Int)=some (gen a d l m)
 | 0,l,m,hd,hm,hg=>by
  refine ⟨40,λk hk=>?_⟩
  obtain ⟨q,rfl⟩:∃ m,k=m+1:=⟨k-1,by omega⟩
  have:=SQ a l m (by omega) (by omega) hg m q 0 (by omega) (by omega);rw [AR.f,if_pos (by omega),show (0:Int)=((0:Nat):Int) from rfl,this,gen];unfold fits
  rw [List.range_eq_range']
 | d+1,l,m,hd,hm,hg=>by
  have hP:=pow11 (d:=d) (by omega);have hpos:0<11 ^ d:=Nat.pow_pos (by omega)
  have loop:∀ (c t:Nat),t+1+c=m+2->∃ K,∀ k,K<=k->∀ acc:List (List Int),acc.length<=(t+1)*11 ^ d->
    AR.l1 k a l (m:Int) (l.length:Int) acc (t:Int)=some (acc++(List.range' (t+1) c).flatMap λe:Nat=>if (places l ((e:Int)-1)).length=3/\0<e then [] else gen a d (l++[(e:Int)-1]) (if e=m+1 then m+1 else m)):=by
   intro c
   induction c with
   | zero=>
    intro t ht;refine ⟨1,λk hk acc hacc=>?_⟩
    obtain ⟨q,rfl⟩:∃ m,k=m+1:=⟨k-1,by omega⟩
    rw [AR.l1,if_neg (by omega)]
    simp
   | succ c ih=>
    intro t ht;obtain ⟨K1,h1⟩:=ih (t+1) (by omega);have hE:((t+1:Nat):Int)-1=(t:Int):=by omega
    have hwt:=At (n:=t) (by omega);have hlen:∀ acc:List (List Int),acc.length<=(t+1)*11 ^ d->acc.length<=(t+1+1)*11 ^ d:=λacc h=>WA h (Nat.mul_le_mul_right _ (by omega));have hgl:=FT a d (l++[(t:Int)]) (if t+1=m+1 then m+1 else m) (by split<;>omega)
    have hacc2:∀ acc:List (List Int),acc.length<=(t+1)*11 ^ d->(acc++gen a d (l++[(t:Int)]) (if t+1=m+1 then m+1 else m)).length<=(t+1+1)*11 ^ d:=λacc h=>by
     rw [IN,Nat.add_mul (t+1) 1,Nat.one_mul];omega
    have hsum:∀ acc:List (List Int),acc.length<=(t+1)*11 ^ d->acc.length+(gen a d (l++[(t:Int)]) (if t+1=m+1 then m+1 else m)).length<5864062014805:=λacc h=>by
     have:(t+1)*11 ^ d<=11*11 ^ d:=Nat.mul_le_mul_right _ (by omega);omega
    by_cases hc3:(places l (t:Int)).length=3
    ·refine ⟨K1+20,λk hk acc hacc=>?_⟩
     obtain ⟨q,rfl⟩:∃ m,k=m+1:=⟨k-1,by omega⟩
     rw [AR.l1,if_pos (by omega),IG l t (by omega) q (by omega)];simp only [AI,NO];rw [if_pos (by omega),hwt,h1 q (by omega) acc (hlen acc hacc),Wu,WD,hE,if_pos ⟨hc3,by omega⟩,Ws]
    ·by_cases hbad:(places l (t:Int)).length=2/\three (selOf a l (t:Int)++[rd a (l.length:Int)])=false
     ·have hg0:gen a d (l++[(t:Int)]) (if t+1=m+1 then m+1 else m)=[]:=by
       refine OC a d _ _ t (by split<;>omega) ?_ ?_
       ·rw [EH,if_pos rfl,IN,hbad.1];rfl
       ·rw [Gi,if_pos rfl];exact hbad.2
      refine ⟨K1+20,λk hk acc hacc=>?_⟩
      obtain ⟨q,rfl⟩:∃ m,k=m+1:=⟨k-1,by omega⟩
      have hsi:=OS a l t ha (by omega) (by omega) hbad.1;obtain ⟨p0,p1,hp,q0,q1,hs,hx,hy,hz⟩:=hsi;rw [AR.l1,if_pos (by omega),IG l t (by omega) q (by omega),hp];simp only [AI,Wz,List.map_nil,It,IS];have e0:rd [(p0:Int),(p1:Int)] 0=p0:=rfl;have e1:rd [(p0:Int),(p1:Int)] 1=p1:=rfl;rw [if_neg (by decide),if_pos (by decide),if_pos (by decide),e0,e1,if_pos (by omega),if_pos (by omega),if_pos (by decide),if_pos (by omega),if_pos (by omega),if_pos (by omega),if_pos (by omega),F8 _ _ _ hx hy hz];simp only [AI];have hb2:=hbad.2;rw [hs] at hb2;rw [show tri (rd a p0) (rd a p1) (rd a (l.length:Int))=false from hb2,if_neg (by decide),hwt,h1 q (by omega) acc (hlen acc hacc),Wu,WD,hE,if_neg (λx=>hc3 x.1),hg0,Ws]
     ·have hgood:Good a (l++[(t:Int)]) (if t+1=m+1 then m+1 else m):=by
       intro t' ht' h3;by_cases htt:t'=t
       ·subst htt;rw [EH,if_pos rfl,IN,List.length_singleton] at h3;rw [Gi,if_pos rfl]
        cases hh:three (selOf a l (t':Int)++[rd a (l.length:Int)]) with
        | true=>rfl
        | false=>exact absurd ⟨by omega,hh⟩ hbad
       ·have hne:¬ ((t:Int)=(t':Int)):=by omega
        rw [EH,if_neg hne,List.append_nil] at h3;rw [Gi,if_neg hne,List.append_nil];exact hg t' (by split at ht'<;>omega) h3
      obtain ⟨K2,h2⟩:=Ja a ha h9 d (l++[(t:Int)]) (if t+1=m+1 then m+1 else m) (by simp;omega) (by simp;split<;>omega) hgood;refine ⟨K1+K2+20,λk hk acc hacc=>?_⟩
      obtain ⟨q,rfl⟩:∃ m,k=m+1:=⟨k-1,by omega⟩
      have g2:=h2 q (by omega);have g1:=h1 q (by omega) (acc++gen a d (l++[(t:Int)]) (if t+1=m+1 then m+1 else m)) (hacc2 acc hacc);have gs:=hsum acc hacc;have hlt:l.length<17592186044416:=by omega
      have fin:((some (([]:List Int):List Int)).bind λy157=>(if y157.length+l.length<17592186044416 then ((some (y157++l:List Int)).bind λy160=>(if y160.length<17592186044416 then ((AR.f q a (y160++[(t:Int)]) (mx (m:Int) (wrap64 ((t:Int)+1)))).bind λt166=>(if acc.length+t166.length<5864062014805 then (AR.l1 q a l (m:Int) (l.length:Int) (acc++t166) (wrap64 ((t:Int)+1))) else (none))) else (none))) else (none))) =
        some (acc++(List.range' (t+1) (c+1)).flatMap λe:Nat=>if (places l ((e:Int)-1)).length=3/\0<e then [] else gen a d (l++[(e:Int)-1]) (if e=m+1 then m+1 else m)):=by
       simp only [AI,Ws,IS,Nat.zero_add];rw [if_pos hlt,if_pos hlt,hwt,S8 (by omega),g2];simp only [AI];rw [if_pos gs,g1,Wu,WD,hE,if_neg (show ¬ ((places l (t:Int)).length=3/\0<t+1) from λx=>hc3 x.1),Wr]
      rw [AR.l1,if_pos (by omega),IG l t (by omega) q (by omega)];simp only [AI,NO];rw [if_neg (by omega)];by_cases hc2:(places l (t:Int)).length=2
      ·obtain ⟨p0,p1,hp,q0,q1,hs,hx,hy,hz⟩:=OS a l t ha (by omega) (by omega) hc2;rw [if_pos (by omega),hp];simp only [Wz,List.map_nil,It,IS];have e0:rd [(p0:Int),(p1:Int)] 0=p0:=rfl;have e1:rd [(p0:Int),(p1:Int)] 1=p1:=rfl;rw [if_pos (by decide),e0,e1,if_pos (by omega),if_pos (by omega),if_pos (by decide),if_pos (by omega),if_pos (by omega),if_pos (by omega),if_pos (by omega),F8 _ _ _ hx hy hz];simp only [AI]
       have hb2:tri (rd a p0) (rd a p1) (rd a (l.length:Int))=true:=by
        cases hh:tri (rd a p0) (rd a p1) (rd a (l.length:Int)) with
        | true=>rfl
        | false=>exact absurd ⟨hc2,by rw [hs];exact hh⟩ hbad
       rw [hb2,if_pos rfl];simp only [AI,IS,Nat.zero_add,Ws] at fin ⊢;exact fin
      ·rw [if_neg (by omega)];simp only [AI,IS,Nat.zero_add,Ws] at fin ⊢;exact fin
  have hgm:Good a (l++[-1]) m:=by
   intro t' ht' h3;have hne:¬ ((-1:Int)=(t':Int)):=by omega
   rw [EH,if_neg hne,List.append_nil] at h3;rw [Gi,if_neg hne,List.append_nil];exact hg t' ht' h3
  obtain ⟨K1,h1⟩:=loop (m+1) 0 (by omega);obtain ⟨K2,h2⟩:=Ja a ha h9 d (l++[-1]) m (by simp;omega) (by simp;omega) hgm;refine ⟨K1+K2+2,λk hk=>?_⟩
  obtain ⟨q,rfl⟩:∃ m,k=m+1:=⟨k-1,by omega⟩
  have g2:=h2 q (by omega);have g1:=h1 q (by omega) (gen a d (l++[-1]) m) (by have:=FT a d (l++[-1]) m (by omega);omega);have hlt:l.length<17592186044416:=by omega
  rw [AR.f,if_neg (by omega)];simp only [AI,Ws,IS,Nat.zero_add];rw [if_pos hlt,if_pos hlt,g2];simp only [AI];rw [show ((0:Nat):Int)=0 from rfl] at g1
  have hgen:gen a (d+1) l m=gen a d (l++[-1]) m++(List.range' (0+1) (m+1)).flatMap λe:Nat=>if (places l ((e:Int)-1)).length=3/\0<e then [] else gen a d (l++[(e:Int)-1]) (if e=m+1 then m+1 else m):=by
   rw [gen,Wu,WD,if_neg (λx=>by have:=x.2;omega),if_neg (by omega)];rfl
  rw [g1,hgen]
theorem MT (a:List Int) (hr:Ag a):∃ K,∀ k,K<=k->AR.f k a [] 0=some (DM a):=
 Ja a hr.1 hr.2.2 a.length [] 0 (by simp) (by simp) (λt ht=>by omega)

end U
namespace U
def thr (xs:List Int):Int:=xs.foldl (λn x=>mx n (x+1)) 0
theorem Kk (a b:Int):a<=mx a b/\b<=mx a b/\(mx a b=a\/mx a b=b):=by
 unfold mx;split<;>omega
theorem Jv:∀ (xs:List Int) (n:Int),n<=xs.foldl (λn x=>mx n (x+1)) n
 | [],n=>Int.le_refl _
 | x::xs,n=>by
  have:=Jv xs (mx n (x+1));have:=Kk n (x+1);rw [Wt];omega
theorem Ij (xs:List Int):0<=thr xs:=Jv xs 0
theorem Lt:∀ (xs:List Int) (y:Int),xs.foldl (λn x=>mx n (x+1)) (y+1)=xs.foldl mx y+1
 | [],y=>rfl
 | x::xs,y=>by
  rw [Wt,Wt,<- Lt xs (mx y x)];congr 1;unfold mx;split<;>split<;>omega
theorem Tp (x:Int) (xs:List Int) (h:-1<=x):thr (x::xs)=xs.foldl mx x+1:=by
 unfold thr;rw [Wt,<- Lt,show mx 0 (x+1)=x+1 by unfold mx;split<;>omega]
theorem GU:∀ (xs:List Int) (y B:Int),y<=B->(∀ x∈xs,x<=B)->xs.foldl mx y<=B
 | [],y,B,h,_=>h
 | x::xs,y,B,h,hx=>by
  rw [Wt];refine GU xs _ B ?_ (λz hz=>hx z (S2 _ hz));have:=Kk y x;have:=hx x TO;omega
theorem GV:∀ (xs:List Int) (y:Int),y<=xs.foldl mx y
 | [],y=>Int.le_refl _
 | x::xs,y=>by
  have:=GV xs (mx y x);have:=Kk y x;rw [Wt];omega
theorem ES {a x:List Int} (h9:a.length<=9) (h:x∈DM a):x.length=a.length/\∀ y∈x,-1<=y/\y<=8:=by
 have h1:=Jy a _ _ _ x h;obtain ⟨m',h2,h3,h4,_⟩:=Kj a _ _ _ x h (by simp);refine ⟨by simpa using h1,λy hy=>?_⟩;have:=h4 y hy;omega
theorem QS (a:List Int):∀ (d n:Nat),gen a d (List.replicate n (-1)) 0≠[]
 | 0,n=>by
  rw [gen,if_pos (by rw [GS];intro t ht;omega)]
  simp
 | d+1,n=>by
  rw [gen];intro h;rw [List.flatMap_eq_nil_iff] at h;have:=h 0 (by simp);rw [if_neg (by omega),if_neg (by omega)] at this;refine QS a d (n+1) ?_;rw [List.replicate_succ'];exact this
theorem I6 (a:List Int):DM a≠[]:=QS a a.length 0

end U
namespace U
theorem UM (xs:List Int) (hx:∀ y∈xs,-1<=y/\y<=8) (hl:xs.length<=1000):∀ (d k i:Nat) (n:Int),i+d=xs.length->d+1<=k->Cc.l0 k xs n (i:Int)=some ((xs.drop i).foldl (λn x=>mx n (x+1)) n):=by
 intro d
 induction d with
 | zero=>
  intro k i n hi hk
  obtain ⟨m,rfl⟩:∃ m,k=m+1:=⟨k-1,by omega⟩
  rw [Cc.l0,if_neg (by omega),Wm (by omega)]
  rfl
 | succ d ih=>
  intro k i n hi hk
  obtain ⟨m,rfl⟩:∃ m,k=m+1:=⟨k-1,by omega⟩
  have hil:i<xs.length:=by omega
  have:=hx _ (Wk hil);rw [Cc.l0,if_pos (by omega),if_pos (by omega),B9 hil,show wrap64 (xs[i]+1)=xs[i]+1 by unfold wrap64;omega,At (by omega),ih m (i+1) _ (by omega) (by omega),Wl hil];rfl
theorem Ih (xs:List Int) (hx:∀ y∈xs,-1<=y/\y<=8) (hl:xs.length<=1000) (k:Nat) (hk:xs.length+1<=k):Cc.f k xs=some (thr xs):=by
 have:=UM xs hx hl xs.length k 0 0 (by omega) hk;unfold Cc.f;rw [show ((0:Nat):Int)=0 from rfl,WF] at this;exact this

end U
namespace U
def Ep:List (List Int)->List Int->List Int
 | [],b=>b
 | x::r,b=>Ep r (if thr x>thr b then x else b)
theorem Hz:∀ (r:List (List Int)) (b:List Int),Ep r b=b\/Ep r b∈r
 | [],b=>.inl rfl
 | x::r,b=>by
  rw [Ep];rcases Hz r (if thr x>thr b then x else b) with h | h
  ·rw [h];split
   ·exact .inr TO
   ·exact .inl rfl
  ·exact .inr (S2 _ h)
theorem FP:∀ (r:List (List Int)) (b:List Int),thr (Ep r b)=r.foldl (λs x=>mx s (thr x)) (thr b)
 | [],b=>rfl
 | x::r,b=>by
  rw [Ep,FP r,Wt];congr 1;unfold mx;split<;>rfl
theorem Ua (ls:List (List Int)) (hb:∀ x∈ls,x.length<=9/\∀ y∈x,-1<=y/\y<=8) (hn:ls.length<4000000000):∀ (d k i:Nat) (b:List Int),b∈ls->i+d=ls.length->d+20<=k->
  CJ.l0 k ls b (i:Int)=some (Ep (ls.drop i) b):=by
 intro d
 induction d with
 | zero=>
  intro k i b hbm hi hk
  obtain ⟨m,rfl⟩:∃ m,k=m+1:=⟨k-1,by omega⟩
  rw [CJ.l0,if_neg (by omega),Wm (by omega)]
  rfl
 | succ d ih=>
  intro k i b hbm hi hk
  obtain ⟨m,rfl⟩:∃ m,k=m+1:=⟨k-1,by omega⟩
  have hil:i<ls.length:=by omega
  have hr:EU ls (i:Int)=ls[i]:=by
   unfold EU;rw [Rr,WI,WH hil];rfl
  have h1:=hb _ (Wk hil);have h2:=hb _ hbm;have hw:=At (n:=i) (by omega);have e1:i+1+d=ls.length:=by omega
  have e2:d+20<=m:=by omega
  rw [CJ.l0,if_pos (by omega),if_pos (by omega),hr,Ih _ h1.2 (by omega) m (by omega),Wl hil,Ep];simp only [AI];rw [Ih _ h2.2 (by omega) m (by omega)];simp only [AI];rw [hw];split
  ·exact ih m (i+1) _ (Wk hil) e1 e2
  ·exact ih m (i+1) b hbm e1 e2
theorem J0 (a:List Int) (hr:Ag a):∃ x r,DM a=x::r/\∃ K,∀ k,K<=k->CJ.f k a=some (Ep r x):=by
 match hg:DM a with
 | []=>exact absurd hg (I6 a)
 | x::r=>
  refine ⟨x,r,rfl,?_⟩;obtain ⟨K,h⟩:=MT a hr;have hlen:(DM a).length<=11 ^ a.length:=FT a a.length [] 0 (by have:=hr.2.2;omega);have hp:=pow11 hr.2.2
  have hin:∀ y∈DM a,y.length<=9/\∀ z∈y,-1<=z/\z<=8:=λy hy=>by
   have:=ES hr.2.2 hy;have h9:=hr.2.2;exact ⟨by omega,this.2⟩
  rw [hg] at hlen hin;refine ⟨K+r.length+100,λk hk=>?_⟩;unfold CJ.f;have:=Ua (x::r) hin (by omega) r.length k 1 x TO (by simp;omega) (by omega);rw [h k (by omega),hg];simp only [AI];rw [if_pos (by simp)];exact this

end U
namespace U
theorem Uj (xs:List Int) (hl:xs.length<=1000):∀ (d k i:Nat) (n:Int),i+d=xs.length->d+1<=k->Av.l0 k xs n (i:Int)=some ((xs.drop i).foldl mx n):=by
 intro d
 induction d with
 | zero=>
  intro k i n hi hk
  obtain ⟨m,rfl⟩:∃ m,k=m+1:=⟨k-1,by omega⟩
  rw [Av.l0,if_neg (by omega),Wm (by omega)]
  rfl
 | succ d ih=>
  intro k i n hi hk
  obtain ⟨m,rfl⟩:∃ m,k=m+1:=⟨k-1,by omega⟩
  have hil:i<xs.length:=by omega
  rw [Av.l0,if_pos (by omega),if_pos (by omega),B9 hil,At (by omega),ih m (i+1) _ (by omega) (by omega),Wl hil];rfl
theorem NM (x:Int) (xs:List Int) (hl:xs.length<=900) (k:Nat) (hk:xs.length+2<=k):Av.f k (x::xs)=some (xs.foldl mx x):=by
 have:=Uj (x::xs) (by simp;omega) xs.length k 1 x (by simp;omega) (by omega);unfold Av.f;rw [if_pos (by simp)];exact this
theorem MH (xs:List Int) (h1:1<=xs.length) (hl:xs.length<=900) (hx:∀ y∈xs,-1<=y/\y<=8) (k:Nat) (hk:xs.length+2<=k):∃ M,Av.f k xs=some M/\wrap64 (M+1)=thr xs/\-1<=M/\M<=8:=by
 match xs,h1,hl,hx,hk with
 | x::r,_,hl,hx,hk=>
  have h0:=hx x TO;refine ⟨_,NM x r (by simp at hl;omega) k (by simp at hk;omega),?_,?_,?_⟩
  ·have h2:=GU r x 8 (by omega) (λz hz=>(hx z (S2 _ hz)).2);have h3:=GV r x;rw [Tp x r (by omega)];unfold wrap64;omega
  ·have h3:=GV r x;omega
  ·exact GU r x 8 (by omega) (λz hz=>(hx z (S2 _ hz)).2)

end U
namespace U
def FB (l:List Int):Int×Bool:=if AM l then ((DM l).foldl (λs x=>mx s (thr x)) 0,true) else (0,false)
theorem Lf (l:List Int) (hl:l.length<=1048576):∃ K,∀ k,K<=k->AN.f k l=some (FB l):=by
 by_cases hb:AM l
 ·obtain ⟨K,h⟩:=GZ l hb.1 (λs x=>mx s (thr x));refine ⟨K+l.length+100,λk hk=>?_⟩;unfold AN.f FB;rw [DZ l hl k (by omega),Wo hb,if_pos hb];simp only [AI];rw [if_pos trivial,h k (by omega) (AN.step k) 0 (λs xs hx=>?_)]
  ·rfl
  ·have h9:=hb.1.2;have hin:=ES h9.2 hx;obtain ⟨M,e1,e2,_⟩:=MH xs (by omega) (by omega) hin.2 k (by omega);unfold AN.step;rw [e1];simp only [AI];rw [e2]
 ·refine ⟨l.length+100,λk hk=>?_⟩;unfold AN.f FB;rw [DZ l hl k (by omega),Wp hb,if_neg hb];simp only [AI];rw [if_neg (by decide)]

end U
namespace U
theorem PB (l:List Int) (hl:l.length<=1048576):∃ K,∀ k,K<=k->DH.f k l=some (FB l):=by
 by_cases hb:AM l
 ·obtain ⟨x,r,hg,K,h⟩:=J0 l hb.1;refine ⟨K+l.length+100,λk hk=>?_⟩;unfold DH.f FB;rw [Ew l hl k (by omega),Wo hb,if_pos hb];simp only [AI];rw [if_pos trivial,h k (by omega)];simp only [AI];have h9:=hb.1.2
  have hm:Ep r x∈DM l:=by
   rw [hg];rcases Hz r x with e | e
   ·rw [e];exact TO
   ·exact S2 _ e
  have hin:=ES h9.2 hm;rw [Ih _ hin.2 (by omega) k (by omega)];simp only [AI];rw [FP,hg,Wt,show mx 0 (thr x)=thr x by have:=Ij x;unfold mx;split<;>omega]
 ·refine ⟨l.length+100,λk hk=>?_⟩;unfold DH.f FB;rw [Ew l hl k (by omega),Wp hb,if_neg hb];simp only [AI];rw [if_neg (by decide)]

end U
namespace U
def EA (l:List Int):List Int×Bool:=if AM l then ((match DM l with
 | []=>[]
 | x::r=>Ep r x),true) else ([],false)
theorem QD {l:List Int} (hb:AM l):∃ x,EA l=(x,true)/\x∈DM l/\thr x=(DM l).foldl (λs x=>mx s (thr x)) 0:=by
 unfold EA;rw [if_pos hb]
 match hg:DM l with
 | []=>exact absurd hg (I6 l)
 | x::r=>
  refine ⟨Ep r x,rfl,?_,?_⟩
  ·rcases Hz r x with e | e
   ·rw [e];exact TO
   ·exact S2 _ e
  ·rw [FP,Wt,show mx 0 (thr x)=thr x by have:=Ij x;unfold mx;split<;>omega]

end U
namespace U
theorem I0:∀ (r:List (List Int)) (b:List Int),(b::r).find? (λx=>decide (thr x=thr (Ep r b)))=some (Ep r b)
 | [],b=>by
  rw [Ep,List.find?_cons,Wo rfl]
 | x::r,b=>by
  have hge:∀ (r:List (List Int)) (b:List Int),thr b<=thr (Ep r b):=λr b=>by
   rw [FP]
   have:∀ (ls:List (List Int)) (n:Int),n<=ls.foldl (λs x=>mx s (thr x)) n:=by
    intro ls
    induction ls with
    | nil=>intro n;exact Int.le_refl _
    | cons y ls ih=>
     intro n;have h1:=ih (mx n (thr y));have h2:=Kk n (thr y);rw [Wt];omega
   exact this r (thr b)
  rw [Ep];by_cases h:thr x>thr b
  ·rw [if_pos h];have h1:=I0 r x;have h2:=hge r x;rw [List.find?_cons,Wp (by omega)];exact h1
  ·rw [if_neg h];have h1:=I0 r b;have h2:=hge r b;by_cases hb:thr b=thr (Ep r b)
   ·rw [List.find?_cons,Wo hb] at h1 ⊢;exact h1
   ·rw [List.find?_cons,Wp hb] at h1 ⊢;rw [List.find?_cons,Wp (by omega)];exact h1
def EP (n:Int) (s x:List Int):List Int:=if s=[] then (if thr x=n then x else s) else s
theorem J8 (n:Int):∀ (ls:List (List Int)) (s:List Int),s≠[]->ls.foldl (EP n) s=s
 | [],s,_=>rfl
 | x::ls,s,h=>by
  rw [Wt];have:EP n s x=s:=by unfold EP;rw [if_neg h]
  rw [this];exact J8 n ls s h
theorem J7 (n:Int):∀ (ls:List (List Int)),(∀ x∈ls,x≠[])->ls.foldl (EP n) []=(ls.find? (λx=>decide (thr x=n))).getD []
 | [],_=>rfl
 | x::ls,h=>by
  rw [Wt,List.find?_cons];by_cases hx:thr x=n
  ·have e:EP n [] x=x:=by unfold EP;rw [if_pos rfl,if_pos hx]
   rw [Wo hx,e,J8 n ls x (h x TO)];rfl
  ·have e:EP n [] x=[]:=by unfold EP;rw [if_pos rfl,if_neg hx]
   rw [Wp hx,e];exact J7 n ls (λy hy=>h y (S2 _ hy))
theorem NI (l:List Int) (hl:l.length<=1048576):∃ K,∀ k,K<=k->AK.f k l=some (EA l):=by
 obtain ⟨K1,g1⟩:=Lf l hl;by_cases hb:AM l
 ·have h9:=hb.1.2.2;have h1:=hb.1.2.1;have e1:FB l=((DM l).foldl (λs x=>mx s (thr x)) 0,true):=by unfold FB;rw [if_pos hb]
  obtain ⟨K,h⟩:=GZ l hb.1 (EP ((DM l).foldl (λs x=>mx s (thr x)) 0));refine ⟨K1+K+100,λk hk=>?_⟩;unfold AK.f;rw [g1 k (by omega),e1,AI];show (if (true=true) then _ else _)=_;rw [if_pos rfl];generalize hN:(DM l).foldl (λs x=>mx s (thr x)) 0=N at h;rw [h k (by omega) (AK.step k N) [] (λs xs hx=>?_),AI]
  ·rw [J7 N (DM l) (λx hx he=>by
    have:=(ES h9 hx).1;rw [he,IS] at this
    omega)]
   unfold EA;rw [if_pos hb]
   match hg:DM l with
   | []=>exact absurd hg (I6 l)
   | x::r=>
    have hn:N=thr (Ep r x):=by
     rw [<- hN,hg,Wt,show mx 0 (thr x)=thr x by have:=Ij x;unfold mx;split<;>omega,FP]
    rw [hn,I0 r x];rfl
  ·have hin:=ES h9 hx;obtain ⟨M,e1,e2,_⟩:=MH xs (by omega) (by omega) hin.2 k (by omega);unfold AK.step EP;by_cases hs:s=[]
   ·rw [if_pos hs,if_pos hs,e1,AI,e2];by_cases hn:thr xs=N
    ·rw [if_pos hn,if_pos hn];unfold Aj.f;rw [if_pos (by omega),if_pos (by omega),Ws]
    ·rw [if_neg hn,if_neg hn]
   ·rw [if_neg hs,if_neg hs]
 ·have e1:FB l=(0,false):=by unfold FB;rw [if_neg hb]
  refine ⟨K1,λk hk=>?_⟩;unfold AK.f EA;rw [g1 k hk,e1,AI,if_neg hb];show (if (false=true) then _ else _)=_;rw [if_neg (by decide)]
end U
namespace U
theorem NV (s:ByteArray):s=⟨s.data.toList.toArray⟩:=by
 cases s;rfl
end U
namespace U
theorem Qu (k:Nat) (hk:3<=k) (n:Int) (hn:-1<=n/\n<=8):∃ s,AE.f k n=some s/\s.data.toList=Lib.itoa n/\s.size<=2:=by
 have key:∀ m:Nat,m<10->∃ s,AE.f 3 ((m:Int)-1)=some s/\s.data.toList=Lib.itoa ((m:Int)-1)/\s.size<=2:=by
  intro m hm;have h:m=0\/m=1\/m=2\/m=3\/m=4\/m=5\/m=6\/m=7\/m=8\/m=9:=by omega
  rcases h with rfl | rfl | rfl | rfl | rfl | rfl | rfl | rfl | rfl | rfl
  ·exact ⟨⟨#[45,49]⟩,by decide +kernel,by decide +kernel,by decide⟩
  ·exact ⟨⟨#[48]⟩,by decide +kernel,by decide +kernel,by decide⟩
  ·exact ⟨⟨#[49]⟩,by decide +kernel,by decide +kernel,by decide⟩
  ·exact ⟨⟨#[50]⟩,by decide +kernel,by decide +kernel,by decide⟩
  ·exact ⟨⟨#[51]⟩,by decide +kernel,by decide +kernel,by decide⟩
  ·exact ⟨⟨#[52]⟩,by decide +kernel,by decide +kernel,by decide⟩
  ·exact ⟨⟨#[53]⟩,by decide +kernel,by decide +kernel,by decide⟩
  ·exact ⟨⟨#[54]⟩,by decide +kernel,by decide +kernel,by decide⟩
  ·exact ⟨⟨#[55]⟩,by decide +kernel,by decide +kernel,by decide⟩
  ·exact ⟨⟨#[56]⟩,by decide +kernel,by decide +kernel,by decide⟩
 obtain ⟨s,h1,h2⟩:=key (n+1).toNat (by omega);rw [show ((n+1).toNat:Int)-1=n by omega] at h1 h2;exact ⟨s,Fb (λk=>AE.mono n k) hk h1,h2⟩
def said (xs:List Int):List UInt8:=Lib.join (xs.map Lib.itoa) [32]
theorem PL (xs:List Int) (n:Int) (h:xs≠[]):said (xs++[n])=said xs++[32]++Lib.itoa n:=by
 match xs,h with
 | x::r,_=>
  unfold said;rw [List.cons_append,Wz,Wz,Lib.join_cons,Lib.join_cons,List.map_append];unfold Lib.joinTail;rw [List.map_append,List.flatten_append];simp [Wr]
theorem Rs (n:Int):said [n]=Lib.itoa n:=by
 unfold said;rw [Wz,List.map_nil,Lib.join_one]
theorem UF (xs:List Int) (h9:xs.length<=9) (hx:∀ y∈xs,-1<=y/\y<=8):∀ (d k i:Nat) (s:ByteArray),i+d=xs.length->d+10<=k->s.size<=3*i->s.data.toList=said (xs.take i)->∃ r,CA.l0 k xs s (i:Int)=some r/\r.data.toList=said xs:=by
 intro d
 induction d with
 | zero=>
  intro k i s hi hk hs he
  obtain ⟨m,rfl⟩:∃ m,k=m+1:=⟨k-1,by omega⟩
  rw [CA.l0,if_neg (by omega)]
  exact ⟨s,rfl,by rw [he,List.take_of_length_le (by omega)]⟩
 | succ d ih=>
  intro k i s hi hk hs he
  obtain ⟨m,rfl⟩:∃ m,k=m+1:=⟨k-1,by omega⟩
  have hil:i<xs.length:=by omega
  obtain ⟨t,t1,t2,t3⟩:=Qu m (by omega) xs[i] (hx _ (Wk hil));have hsz:(⟨#[32]⟩:ByteArray).size=1:=rfl;rw [CA.l0,if_pos (by omega),B9 hil,At (by omega)];by_cases h0:0<i
  ·have hne:xs.take i≠[]:=by
    intro h;have:=WL List.length h;rw [IT,IS] at this;omega
   rw [if_pos (by omega),if_pos (by omega),if_pos (by omega),t1,AI,if_pos (by rw [ByteArray.size_append,hsz];omega)];refine ih m (i+1) _ (by omega) (by omega) (by rw [ByteArray.size_append,ByteArray.size_append,hsz];omega) ?_;rw [List.take_succ_eq_append_getElem hil,PL _ _ hne,<- he,<- t2];simp [ByteArray.data_append]
  ·have hi0:i=0:=by omega
   subst hi0;rw [if_neg (by omega),if_pos (by omega),t1,AI,if_pos (by omega)];refine ih m (0+1) _ (by omega) (by omega) (by rw [ByteArray.size_append];omega) ?_;rw [List.take_succ_eq_append_getElem hil,WE,Ws,Rs,<- t2];rw [WE] at he;have he:s.data.toList=[]:=he;simp [ByteArray.data_append,he]
theorem N8 (xs:List Int) (h9:xs.length<=9) (hx:∀ y∈xs,-1<=y/\y<=8) (k:Nat) (hk:30<=k):CA.f k xs=some ⟨(said xs).toArray⟩:=by
 obtain ⟨r,h1,h2⟩:=UF xs h9 hx xs.length k 0 ⟨#[]⟩ (by omega) (by omega) (by decide) rfl;unfold CA.f;have h1:CA.l0 k xs ⟨#[]⟩ 0=some r:=h1;rw [h1,NV r,h2]

end U
namespace U
theorem Kh (n:Int) (hn:-1<=n/\n<=8):(Lib.itoa n).length<=2:=by
 have key:∀ m:Nat,m<10->(Lib.itoa ((m:Int)-1)).length<=2:=by decide +kernel
 have:=key (n+1).toNat (by omega);rw [show ((n+1).toNat:Int)-1=n by omega] at this;exact this
theorem M6:∀ (xs:List Int),(∀ y∈xs,-1<=y/\y<=8)->(said xs).length<=3*xs.length
 | [],_=>WC _
 | x::r,h=>by
  unfold said;rw [Wz,Lib.join_cons,IN];have h1:=Kh x (h x TO)
  have h2:∀ (r:List Int),(∀ y∈r,-1<=y/\y<=8)->(Lib.joinTail [32] (r.map Lib.itoa)).length<=3*r.length:=by
   intro r
   induction r with
   | nil=>intro _;exact WC _
   | cons z r ih=>
    intro h;have g1:=Kh z (h z TO);have g2:=ih (λy hy=>h y (S2 _ hy));unfold Lib.joinTail at g2 ⊢;rw [Wz,Wz,List.flatten_cons,IN,IN,It];have h0:([]:List UInt8).length=0:=rfl;have hz:(z::r).length=r.length+1:=rfl;omega
  have h3:=h2 r (λy hy=>h y (S2 _ hy));rw [It];omega

end U
namespace U
def Gu (l:List Int):ByteArray×Bool:=if AM l then (⟨(said (EA l).1).toArray⟩,true) else (⟨#[]⟩,false)
theorem GP {l:List Int} (hb:AM l):(EA l).2=true/\(EA l).1.length<=9/\∀ y∈(EA l).1,-1<=y/\y<=8:=by
 obtain ⟨x,h1,h2,_⟩:=QD hb;have h:=ES hb.1.2.2 h2;have h9:=hb.1.2.2;rw [h1];exact ⟨rfl,by show x.length<=9;omega,h.2⟩

end U
namespace U
theorem UP (xs:List Int) (h9:xs.length<=9) (hx:∀ y∈xs,-1<=y/\y<=8):∀ (d k i:Nat) (out:List ByteArray),i+d=xs.length->d+1<=k->out=(xs.take i).map (λn=>(⟨(Lib.itoa n).toArray⟩:ByteArray))->
  Bb.l0 k (⟨#[32]⟩:ByteArray) out xs (xs.length:Int) (i:Int)=some ⟨(said xs).toArray⟩:=by
 intro d
 induction d with
 | zero=>
  intro k i out hi hk ho
  obtain ⟨m,rfl⟩:∃ m,k=m+1:=⟨k-1,by omega⟩
  rw [List.take_of_length_le (by omega)] at ho
  have e:out.map (·.data.toList)=xs.map Lib.itoa:=by
   rw [ho,List.map_map];apply List.map_congr_left;intro n _;simp
  have hl:=M6 xs hx;have e2:(⟨#[32]⟩:ByteArray).data.toList=[32]:=rfl;rw [Bb.l0,if_neg (by omega)];unfold strings_Join.f;rw [e,e2];have e3:Lib.join (xs.map Lib.itoa) [32]=said xs:=rfl
  rw [e3,if_pos ⟨by rw [ho,NO];omega,by omega⟩,AI]
 | succ d ih=>
  intro k i out hi hk ho
  obtain ⟨m,rfl⟩:∃ m,k=m+1:=⟨k-1,by omega⟩
  have hil:i<xs.length:=by omega
  have h1:=hx _ (Wk hil);have hol:out.length<=9:=by rw [ho,NO,IT];omega
  rw [Bb.l0,if_pos (by omega),if_pos (by omega),if_pos (by omega),B9 hil,At (by omega)];unfold strconv_Itoa.f;rw [if_pos (by omega),AI,if_pos (by omega)];refine ih m (i+1) _ (by omega) (by omega) ?_;rw [ho,List.take_succ_eq_append_getElem hil,List.map_append,Wz,List.map_nil]
theorem Oj (xs:List Int) (h9:xs.length<=9) (hx:∀ y∈xs,-1<=y/\y<=8) (k:Nat) (hk:30<=k):Bb.f k xs (⟨#[32]⟩:ByteArray)=some ⟨(said xs).toArray⟩:=by
 unfold Bb.f;exact UP xs h9 hx xs.length k 0 [] (by omega) (by omega) rfl
theorem N2 (l:List Int) (hl:l.length<=1048576):∃ K,∀ k,K<=k->Dq.f k l=some (Gu l):=by
 obtain ⟨K,g⟩:=NI l hl;refine ⟨K+100,λk hk=>?_⟩;unfold Dq.f Gu;rw [g k (by omega),AI];by_cases hb:AM l
 ·obtain ⟨h1,h2,h3⟩:=GP hb;rw [if_pos h1,Oj _ h2 h3 k (by omega),AI,if_pos hb]
 ·have e:EA l=([],false):=by unfold EA;rw [if_neg hb]
  rw [e,if_neg (by decide),if_neg hb]

end U
namespace U
theorem N3 (l:List Int) (hl:l.length<=1048576):∃ K,∀ k,K<=k->Df.f k l=some (Gu l):=by
 by_cases hb:AM l
 ·obtain ⟨x,r,hg,K,h⟩:=J0 l hb.1;obtain ⟨h1,h2,h3⟩:=GP hb;have e:EA l=(Ep r x,true):=by unfold EA;rw [if_pos hb,hg]
  rw [e] at h2 h3;refine ⟨K+l.length+100,λk hk=>?_⟩;unfold Df.f Gu;rw [Ew l hl k (by omega),Wo hb,AI,if_pos rfl,h k (by omega),AI,N8 _ h2 h3 k (by omega),AI,if_pos hb,e]
 ·refine ⟨l.length+100,λk hk=>?_⟩;unfold Df.f Gu;rw [Ew l hl k (by omega),Wp hb,AI,if_neg (by decide),if_neg hb]

end U
namespace U
def steps:List Int->List Bool->Int×Int×Int->Int×Int×Int
 | x::l,b::bs,e=>steps l bs (if b=true then e.1-x else e.1+x,mn e.2.1 (if b=true then e.1-x else e.1+x),mx e.2.2 (if b=true then e.1-x else e.1+x))
 | _,_,e=>e
def Dl (bs:List Bool):Nat->Nat
 | 0=>0
 | i+1=>2*Dl bs i+if bs[i]?=some true then 1 else 0
theorem Hf (bs:List Bool):∀ i,Dl bs i<2 ^ i
 | 0=>by simp [Dl]
 | i+1=>by
  have:=Hf bs i;rw [Dl,Nat.pow_succ];split<;>omega
theorem E9 (bs:List Bool):∀ d i,Dl bs (i+d) / 2 ^ d=Dl bs i
 | 0,i=>by simp
 | d+1,i=>by
  rw [Nat.pow_succ,Nat.mul_comm,<- Nat.div_div_eq_div_mul,show i+(d+1)=(i+d)+1 by omega,Dl];rw [show (2*Dl bs (i+d)+if bs[i+d]?=some true then 1 else 0) / 2=Dl bs (i+d) by split<;>omega];exact E9 bs d i
theorem H5 (bs:List Bool) (i:Nat):Dl bs (i+1) % 2=if bs[i]?=some true then 1 else 0:=by
 rw [Dl];split<;>omega

end U
namespace U
theorem MV (a b:Int):(mn a b=a\/mn a b=b)/\(mx a b=a\/mx a b=b):=by
 unfold mn mx;constructor<;>split<;>simp
theorem IM:∀ (l:List Int) (bs:List Bool) (p lo hi:Int) (B:Int),(∀ x∈l,1<=x/\x<=60)->-B<=p->p<=B->-B<=lo->lo<=B->-B<=hi->hi<=B->
  -(B+60*l.length)<=(steps l bs (p,lo,hi)).2.1/\(steps l bs (p,lo,hi)).2.1<=B+60*l.length/\-(B+60*l.length)<=(steps l bs (p,lo,hi)).2.2/\(steps l bs (p,lo,hi)).2.2<=B+60*l.length
 | [],bs,p,lo,hi,B,_,_,_,_,_,_,_=>by unfold steps;simp;omega
 | x::l,[],p,lo,hi,B,_,_,_,_,_,_,_=>by unfold steps;simp only [It];omega
 | x::l,b::bs,p,lo,hi,B,h,h1,h2,h3,h4,h5,h6=>by
  have hx:=h x TO;have key:=λp' lo' hi'=>IM l bs p' lo' hi' (B+60) (λy hy=>h y (S2 _ hy));unfold steps;simp only [It];have e:=MV lo (if b=true then p-x else p+x);have e':=MV hi (if b=true then p-x else p+x);have hp:-(B+60)<=(if b=true then p-x else p+x)/\(if b=true then p-x else p+x)<=B+60:=by split<;>omega
  generalize (if b=true then p-x else p+x)=q at *;have:=key q (mn lo q) (mx hi q) (by omega) (by omega) (by omega) (by omega) (by omega) (by omega);omega

end U
namespace U
theorem Sy (l:List Int) (bs:List Bool) (hr:Ag l) (hb:bs.length=l.length):∀ (d k i:Nat) (p lo hi:Int),i+d=l.length->d+1<=k->-60*i<=p->p<=60*i->
  Cs.l0 k l ((Dl bs l.length:Nat):Int) p lo hi (i:Int)=some (steps (l.drop i) (bs.drop i) (p,lo,hi)):=by
 intro d
 induction d with
 | zero=>
  intro k i p lo hi hi' hk h1 h2
  obtain ⟨m,rfl⟩:∃ m,k=m+1:=⟨k-1,by omega⟩
  rw [Cs.l0,if_neg (by omega),Wm (by omega)]
  rfl
 | succ d ih=>
  intro k i p lo hi hi' hk h1 h2
  obtain ⟨m,rfl⟩:∃ m,k=m+1:=⟨k-1,by omega⟩
  have hil:i<l.length:=by omega
  obtain ⟨r1,r2,r3⟩:=hr;have hx:=r1 l[i] (Wk hil);have w1:wrap64 ((l.length:Int)-1)=(l.length:Int)-1:=by unfold wrap64;omega
  have w2:wrap64 ((l.length:Int)-1-i)=(d:Int):=by unfold wrap64;omega
  have w3:wrap64 (p-l[i])=p-l[i]:=by unfold wrap64;omega
  have w4:wrap64 (p+l[i])=p+l[i]:=by unfold wrap64;omega
  have hM:=Hf bs l.length;have hM2:Dl bs l.length<512:=WK hM (Nat.pow_le_pow_right (by omega) r3:2 ^ l.length<=2 ^ 9)
  have hsh:shr .i64 ((Dl bs l.length:Nat):Int) (d:Int)=((Dl bs (i+1):Nat):Int):=by
   unfold shr;rw [Rr,show min d (IntKind.i64.bits)=d by simp only [IntKind.bits];omega];rw [<- E9 bs d (i+1),show i+1+d=l.length by omega]
   norm_cast
  have hM3:Dl bs (i+1)<4611686018427387904:=by
   have:=E9 bs d (i+1);rw [show i+1+d=l.length by omega] at this;have:=Nat.div_le_self (Dl bs l.length) (2 ^ d);omega
  have hbi:i<bs.length:=by omega
  rw [Cs.l0,if_pos (by omega),w1,w2,if_pos (by omega),hsh,G9 _ hM3,H5,B9 hil,w3,w4,At (by omega),Wl hil,Wl hbi,WH hbi]
  cases hbb:bs[i] with
  | true=>
   rw [if_pos rfl,if_pos (by omega),ih m (i+1) _ _ _ (by omega) (by omega) (by omega) (by omega)]
   rfl
  | false=>
   rw [if_neg (by decide),if_pos (by omega),ih m (i+1) _ _ _ (by omega) (by omega) (by omega) (by omega)];rfl
theorem ends5 (l:List Int) (bs:List Bool) (hr:Ag l) (hb:bs.length=l.length) (k:Nat) (hk:l.length+1<=k) :
  Cs.f k l ((Dl bs l.length:Nat):Int)=some (steps l bs (0,0,0)):=
 Sy l bs hr hb l.length k 0 0 0 0 (by omega) (by omega) (by omega) (by omega)

end U
namespace U
def Qc (s:ByteArray) (i:Nat):Prop:=∀ j:Nat,j<s.size->i<=j->bt s (j:Int)=108\/bt s (j:Int)=114
instance (s:ByteArray) (i:Nat):Decidable (Qc s i):=by unfold Qc;infer_instance
theorem Lq {l:List Int} {bs:List Bool} (hr:Ag l):wrap64 ((steps l bs (0,0,0)).2.2-(steps l bs (0,0,0)).2.1)=(steps l bs (0,0,0)).2.2-(steps l bs (0,0,0)).2.1:=by
 have:=IM l bs 0 0 0 0 hr.1 (by omega) (by omega) (by omega) (by omega) (by omega) (by omega);have:=hr.2.2;unfold wrap64;omega

end U
namespace U
def bitsN (n m:Nat):List Bool:=(List.range n).map λi=>decide (m / 2 ^ (n-1-i) % 2=1)
theorem Dn (n m:Nat):(bitsN n m).length=n:=by simp [bitsN]
theorem GH (n m i:Nat) (h:i<n):(bitsN n m)[i]?=some (decide (m / 2 ^ (n-1-i) % 2=1)):=by
 simp [bitsN,h]
theorem IC (n m:Nat) (hm:m<2 ^ n):∀ i,i<=n->Dl (bitsN n m) i=m / 2 ^ (n-i)
 | 0,_=>by rw [Dl,Nat.sub_zero,Nat.div_eq_of_lt hm]
 | i+1,h=>by
  rw [Dl,IC n m hm i (by omega),GH n m i (by omega),show n-i=(n-(i+1))+1 by omega,Nat.pow_succ,<- Nat.div_div_eq_div_mul,show n-1-i=n-(i+1) by omega];generalize m / 2 ^ (n-(i+1))=q;simp only [AT,Wq];split<;>omega
theorem Es (n m:Nat) (hm:m<2 ^ n):Dl (bitsN n m) n=m:=by
 rw [IC n m hm n (Wn _),Nat.sub_self,Nat.pow_zero,Nat.div_one]
def textN (bs:List Bool):List Int:=bs.map λb=>if b=true then 108 else 114
theorem FL (bs:List Bool):(textN bs).length=bs.length:=by simp [textN]
def spN (l:List Int) (m:Nat):Int:=(steps l (bitsN l.length m) (0,0,0)).2.2-(steps l (bitsN l.length m) (0,0,0)).2.1
theorem SH (l:List Int) (bs:List Bool) (hr:Ag l) (hb:bs.length=l.length):∀ (d k i:Nat) (p lo hi:Int),i+d=l.length->d+1<=k->-60*i<=p->p<=60*i->
  AP.l1 k l ((Dl bs l.length:Nat):Int) (textN (bs.take i)) p lo hi (i:Int)=some (textN bs,steps (l.drop i) (bs.drop i) (p,lo,hi)):=by
 intro d
 induction d with
 | zero=>
  intro k i p lo hi hi' hk h1 h2
  obtain ⟨m,rfl⟩:∃ m,k=m+1:=⟨k-1,by omega⟩
  rw [AP.l1,if_neg (by omega),Wm (by omega),List.take_of_length_le (by omega)]
  rfl
 | succ d ih=>
  intro k i p lo hi hi' hk h1 h2
  obtain ⟨m,rfl⟩:∃ m,k=m+1:=⟨k-1,by omega⟩
  have hil:i<l.length:=by omega
  obtain ⟨r1,r2,r3⟩:=hr;have hx:=r1 l[i] (Wk hil);have w1:wrap64 ((l.length:Int)-1)=(l.length:Int)-1:=by unfold wrap64;omega
  have w2:wrap64 ((l.length:Int)-1-i)=(d:Int):=by unfold wrap64;omega
  have w3:wrap64 (p-l[i])=p-l[i]:=by unfold wrap64;omega
  have w4:wrap64 (p+l[i])=p+l[i]:=by unfold wrap64;omega
  have hM:=Hf bs l.length;have hM2:Dl bs l.length<512:=WK hM (Nat.pow_le_pow_right (by omega) r3:2 ^ l.length<=2 ^ 9)
  have hsh:shr .i64 ((Dl bs l.length:Nat):Int) (d:Int)=((Dl bs (i+1):Nat):Int):=by
   unfold shr;rw [Rr,show min d (IntKind.i64.bits)=d by simp only [IntKind.bits];omega];rw [<- E9 bs d (i+1),show i+1+d=l.length by omega]
   norm_cast
  have hM3:Dl bs (i+1)<4611686018427387904:=by
   have:=E9 bs d (i+1);rw [show i+1+d=l.length by omega] at this;have:=Nat.div_le_self (Dl bs l.length) (2 ^ d);omega
  have hbi:i<bs.length:=by omega
  have ht:(textN (bs.take i)).length<1000:=by rw [FL,IT];omega
  have htk:textN (bs.take (i+1))=textN (bs.take i)++[if bs[i]=true then 108 else 114]:=by
   unfold textN;rw [List.take_succ_eq_append_getElem hbi,List.map_append];rfl
  rw [AP.l1,if_pos (by omega),if_pos (by omega),w1,w2,if_pos (by omega),if_pos ht,hsh,G9 _ hM3,H5,B9 hil,w3,w4,At (by omega),Wl hil,Wl hbi,WH hbi]
  cases hbb:bs[i] with
  | true=>
   rw [hbb,if_pos rfl] at htk;rw [if_neg (by decide),<- htk,ih m (i+1) _ _ _ (by omega) (by omega) (by omega) (by omega)]
   rfl
  | false=>
   rw [hbb,if_neg (by decide)] at htk;rw [if_pos (by decide),<- htk,ih m (i+1) _ _ _ (by omega) (by omega) (by omega) (by omega)];rfl
theorem fold1 (l:List Int) (hr:Ag l) (m:Nat) (hm:m<2 ^ l.length) (k:Nat) (hk:l.length+1<=k) :
  AP.l1 k l (m:Int) [] 0 0 0 0=some (textN (bitsN l.length m),steps l (bitsN l.length m) (0,0,0)):=by
 have:=SH l (bitsN l.length m) hr (Dn _ _) l.length k 0 0 0 0 (by omega) (by omega) (by omega) (by omega);rw [Es _ _ hm] at this;exact this
theorem pow9 {l:List Int} (hr:Ag l):2 ^ l.length<=512:=(Nat.pow_le_pow_right (by omega) hr.2.2:2 ^ l.length<=2 ^ 9)
theorem Fm {l:List Int} (hr:Ag l):shl .i64 1 (l.length:Int)=((2 ^ l.length:Nat):Int):=by
 have h9:=pow9 hr;have hl:=hr.2.2;unfold shl;rw [Rr,show min l.length (IntKind.i64.bits)=l.length by simp only [IntKind.bits];omega,Int.one_mul];have e:(2:Int) ^ l.length=((2 ^ l.length:Nat):Int):=by norm_cast
 rw [e];generalize 2 ^ l.length=q at h9;simp [IntKind.wrap,IntKind.bits,IntKind.signed];omega
theorem SI {S:Type} (step:S->ByteArray->Int->Int->Option S) (l:List Int) (hr:Ag l) (Inv:Nat->S->Prop)
  (hstep:∀ m s,m<2 ^ l.length->Inv m s->∃ s',step s (strOfNums (textN (bitsN l.length m))) (steps l (bitsN l.length m) (0,0,0)).1 (spN l m)=some s'/\Inv (m+1) s') :
  ∀ (d k m:Nat) (s:S),m+d=2 ^ l.length->d+l.length+2<=k->Inv m s->∃ s',AP.l0 step k l ((2 ^ l.length:Nat):Int) s (m:Int)=some s'/\Inv (2 ^ l.length) s':=by
 have h9:=pow9 hr;intro d
 induction d with
 | zero=>
  intro k m s hm hk hi
  obtain ⟨j,rfl⟩:∃ j,k=j+1:=⟨k-1,by omega⟩
  have:m=2 ^ l.length:=by omega
  subst this;rw [AP.l0,if_neg (by omega)]
  exact ⟨s,rfl,hi⟩
 | succ d ih=>
  intro k m s hm hk hi
  obtain ⟨j,rfl⟩:∃ j,k=j+1:=⟨k-1,by omega⟩
  obtain ⟨s',h1,h2⟩:=hstep m s (by omega) hi;rw [AP.l0,if_pos (by omega),fold1 l hr m (by omega) j (by omega)];simp only [AI];rw [Lq hr];unfold spN at h1;rw [h1];simp only [AI];rw [At (by omega)];exact ih j (m+1) s' (by omega) (by omega) h2
theorem folds {S:Type} (step:S->ByteArray->Int->Int->Option S) (l:List Int) (hr:Ag l) (Inv:Nat->S->Prop)
  (hstep:∀ m s,m<2 ^ l.length->Inv m s->∃ s',step s (strOfNums (textN (bitsN l.length m))) (steps l (bitsN l.length m) (0,0,0)).1 (spN l m)=some s'/\Inv (m+1) s')
  (k:Nat) (hk:2 ^ l.length+l.length+2<=k) (s:S) (hs:Inv 0 s):∃ s',AP.f step k l s=some s'/\Inv (2 ^ l.length) s':=by
 unfold AP.f;rw [Fm hr];exact SI step l hr Inv hstep (2 ^ l.length) k 0 s (by omega) hk hs

end U
namespace U
def Best (l:List Int) (m:Nat) (b:Int) (f:Nat):Prop:=f<m/\spN l f=b/\(∀ j,j<m->b<=spN l j)/\∀ j,j<f->b<spN l j
theorem Im {l:List Int} {m:Nat} {b b':Int} {f f':Nat} (h:Best l m b f) (h':Best l m b' f'):b=b'/\f=f':=by
 obtain ⟨h1,h2,h3,h4⟩:=h;obtain ⟨g1,g2,g3,g4⟩:=h';have e1:=h3 f' g1;have e2:=g3 f h1;have e:b=b':=by omega
 refine ⟨e,?_⟩;rcases Nat.lt_trichotomy f f' with h | h | h
 ·have:=g4 f h;omega
 ·exact h
 ·have:=h4 f' h;omega
theorem UI {l:List Int} (hr:Ag l) (m:Nat):-1080<=spN l m/\spN l m<=1080:=by
 have:=IM l (bitsN l.length m) 0 0 0 0 hr.1 (by omega) (by omega) (by omega) (by omega) (by omega) (by omega);have:=hr.2.2;unfold spN;omega
theorem JM (l:List Int):∀ m,0<m->∃ b f,Best l m b f
 | 0,h=>absurd h (by decide)
 | 1,_=>⟨spN l 0,0,by omega,rfl,λj hj=>by rw [show j=0 by omega];exact Int.le_refl _,λj hj=>by omega⟩
 | m+2,_=>by
  obtain ⟨b,f,h1,h2,h3,h4⟩:=JM l (m+1) (by omega);by_cases h:spN l (m+1)<b
  ·refine ⟨spN l (m+1),m+1,by omega,rfl,λj hj=>?_,λj hj=>?_⟩
   ·by_cases hj2:j<m+1
    ·have:=h3 j hj2;omega
    ·rw [show j=m+1 by omega];exact Int.le_refl _
   ·have:=h3 j hj;omega
  ·refine ⟨b,f,by omega,h2,λj hj=>?_,h4⟩;by_cases hj2:j<m+1
   ·exact h3 j hj2
   ·rw [show j=m+1 by omega];omega
theorem Mc:∀ (l:List Int) (n:Nat) (p lo hi:Int),(∀ x∈l,1<=x/\x<=60)->l.length<=n->0<=p->lo=0->hi=p->steps l (List.replicate n false) (p,lo,hi)=(p+l.sum,0,p+l.sum)
 | [],n,p,lo,hi,_,_,_,h1,h2=>by
  subst h1 h2;unfold steps
  simp
 | x::l,0,p,lo,hi,_,h,_,_,_=>by simp at h
 | x::l,n+1,p,lo,hi,hx,hn,h0,h1,h2=>by
  have h:=hx x TO;rw [List.replicate_succ,steps];simp only [Bool.false_eq_true,if_false];subst h1 h2;rw [show mn 0 (hi+x)=0 by unfold mn;split<;>omega,show mx hi (hi+x)=hi+x by unfold mx;split<;>omega,Mc l n _ _ _ (λy hy=>hx y (S2 _ hy)) (by simpa using hn) (by omega) rfl rfl,List.sum_cons,Int.add_assoc]
theorem NB (n:Nat):bitsN n 0=List.replicate n false:=by
 refine List.ext_getElem? λi=>?_;by_cases h:i<n
 ·rw [GH n 0 i h,List.getElem?_replicate,if_pos h];simp
 ·rw [List.getElem?_eq_none (by rw [Dn];omega),List.getElem?_eq_none (by simp;omega)]
theorem Kr {l:List Int} (hr:Ag l):spN l 0=l.sum:=by
 unfold spN;rw [NB,Mc l _ 0 0 0 hr.1 (Wn _) (by omega) rfl rfl];simp
theorem VD (a b:Int):mn a b<=a/\mn a b<=b/\(mn a b=a\/mn a b=b):=by
 unfold mn;split<;>omega
theorem GW (l:List Int) (hl:l.length<=1048576) (k:Nat) (hk:l.length+600<=k):∃ r,BW.f k l=some r/\(if Ag l then r.2=true/\∃ f,Best l (2 ^ l.length) r.1 f else r=(0,false)):=by
 unfold BW.f;rw [EG l hl k (by omega)];simp only [AI,Wq];by_cases hr:Ag l
 ·have h9:=pow9 hr;have hl9:=hr.2.2;rw [if_pos hr,Gj l (by omega) hr.1 k (by omega)];simp only [AI]
  obtain ⟨s,h1,h2⟩:=folds BW.step l hr (λm s=>(m=0/\s=l.sum)\/((∃ j,j<m/\spN l j=s)/\∀ j,j<m->s<=spN l j)) (λm s hm hi=>by
   refine ⟨_,rfl,.inr ?_⟩;have e:=VD s (spN l m);rcases hi with ⟨rfl,rfl⟩ | ⟨⟨j,hj,he⟩,hle⟩
   ·rw [Kr hr] at *;refine ⟨⟨0,by omega,by rw [Kr hr];omega⟩,λj hj=>?_⟩;obtain rfl:j=0:=by omega
    rw [Kr hr];omega
   ·constructor
    ·rcases e.2.2 with e2 | e2
     ·exact ⟨j,by omega,by omega⟩
     ·exact ⟨m,by omega,by omega⟩
    ·intro i hi;rcases Nat.lt_or_ge i m with h | h
     ·have:=hle i h;omega
     ·obtain rfl:i=m:=by omega
      omega) k (by omega) l.sum (.inl ⟨rfl,rfl⟩)
  rw [h1];simp only [AI];refine ⟨_,rfl,?_⟩;rw [if_pos hr];refine ⟨rfl,?_⟩;obtain ⟨b,f,hB⟩:=JM l (2 ^ l.length) (Nat.two_pow_pos _);have hpos:0<2 ^ l.length:=Nat.two_pow_pos _;rcases h2 with ⟨h2,_⟩ | ⟨⟨j,hj,he⟩,hle⟩
  ·omega
  ·obtain ⟨g1,g2,g3,g4⟩:=hB;have e1:=hle f g1;have e2:=g3 j hj;have e:b=s:=by omega
   subst e;exact ⟨f,g1,g2,g3,g4⟩
 ·rw [if_neg hr];exact ⟨_,rfl,by rw [if_neg hr]⟩

end U
namespace U
theorem SR (l:List Int) (hr:Ag l):∀ (d k m:Nat) (b:Int) (f:Nat),m+d=2 ^ l.length->d+l.length+2<=k->(m=0\/Best l m b f)->
  ∃ b' f',Ch.l0 k l b (f:Int) (m:Int)=some (b',((f':Nat):Int))/\(2 ^ l.length=0\/Best l (2 ^ l.length) b' f'):=by
 have h9:=pow9 hr;intro d
 induction d with
 | zero=>
  intro k m b f hm hk hi
  obtain ⟨j,rfl⟩:∃ j,k=j+1:=⟨k-1,by omega⟩
  have:m=2 ^ l.length:=by omega
  subst this;rw [Ch.l0,Fm hr,if_neg (by omega)]
  exact ⟨b,f,rfl,hi⟩
 | succ d ih=>
  intro k m b f hm hk hi
  obtain ⟨j,rfl⟩:∃ j,k=j+1:=⟨k-1,by omega⟩
  have e5:=ends5 l (bitsN l.length m) hr (Dn _ _) j (by omega);rw [Es _ _ (by omega)] at e5;rw [Ch.l0,Fm hr,if_pos (by omega),e5];simp only [AI];rw [Lq hr,show (steps l (bitsN l.length m) (0,0,0)).2.2-(steps l (bitsN l.length m) (0,0,0)).2.1=spN l m from rfl,At (by omega)];by_cases h0:m=0
  ·rw [if_pos (by omega)];refine ih j (m+1) _ _ (by omega) (by omega) (.inr ?_);subst h0
   exact ⟨by omega,rfl,λj hj=>by
    obtain rfl:j=0:=by omega
    exact Int.le_refl _,λj hj=>by omega⟩
  ·rw [if_neg (by omega)];obtain ⟨g1,g2,g3,g4⟩:Best l m b f:=hi.resolve_left h0;by_cases h1:spN l m<b
   ·rw [if_pos h1];refine ih j (m+1) _ _ (by omega) (by omega) (.inr ⟨by omega,rfl,λj hj=>?_,λj hj=>?_⟩)
    ·rcases Nat.lt_or_ge j m with h | h
     ·have:=g3 j h;omega
     ·obtain rfl:j=m:=by omega
      exact Int.le_refl _
    ·have:=g3 j hj;omega
   ·rw [if_neg h1];refine ih j (m+1) _ _ (by omega) (by omega) (.inr ⟨by omega,g2,λj hj=>?_,g4⟩);rcases Nat.lt_or_ge j m with h | h
    ·exact g3 j h
    ·obtain rfl:j=m:=by omega
     omega
theorem Jx (l:List Int) (hr:Ag l) (k:Nat) (hk:2 ^ l.length+l.length+2<=k):∃ b f,Ch.f k l=some (b,((f:Nat):Int))/\Best l (2 ^ l.length) b f:=by
 obtain ⟨b,f,h1,h2⟩:=SR l hr (2 ^ l.length) k 0 0 0 (by omega) hk (.inl rfl);refine ⟨b,f,h1,h2.resolve_left ?_⟩;have:0<2 ^ l.length:=Nat.two_pow_pos _;omega
theorem G5 (t:List Int):(strOfNums t).size=t.length:=by simp [strOfNums,ByteArray.size]
theorem J9 (l:List Int) (hl:l.length<=1048576) (k:Nat) (hk:l.length+600<=k):∃ r,BL.f k l=some r/\(if Ag l then r.2=true/\∃ b f,Best l (2 ^ l.length) b f/\r.1=strOfNums (textN (bitsN l.length f)) else r=(⟨#[]⟩,false)):=by
 unfold BL.f;obtain ⟨⟨b,t⟩,h1,h2⟩:=GW l hl k hk;rw [h1];simp only [AI];by_cases hr:Ag l
 ·have h9:=pow9 hr;have hl9:=hr.2.2;rw [if_pos hr] at h2;obtain ⟨h2,f,hB⟩:=h2;simp only at h2 hB;subst h2;rw [if_pos rfl];have hpos:∀ m,(strOfNums (textN (bitsN l.length m))).size≠0:=λm=>by rw [G5,FL,Dn];have:=hr.2.1;omega
  obtain ⟨s,h3,h4⟩:=folds (BL.step b) l hr (λm s=>(s=⟨#[]⟩/\∀ j,j<m->spN l j≠b)\/(∃ i,i<m/\s=strOfNums (textN (bitsN l.length i))/\spN l i=b/\∀ j,j<i->spN l j≠b)) (λm s hm hi=>by
   refine ⟨_,rfl,?_⟩;by_cases e:spN l m=b
   ·rw [if_pos e];rcases hi with ⟨rfl,hi⟩ | ⟨i,hi,rfl,h5,h6⟩
    ·rw [if_pos (show (⟨#[]⟩:ByteArray).size=0 from rfl)];exact .inr ⟨m,by omega,rfl,e,hi⟩
    ·rw [if_neg (hpos i)];exact .inr ⟨i,by omega,rfl,h5,h6⟩
   ·rw [if_neg e];rcases hi with ⟨rfl,hi⟩ | ⟨i,hi,rfl,h5,h6⟩
    ·refine .inl ⟨rfl,λj hj=>?_⟩;rcases Nat.lt_or_ge j m with h | h
     ·exact hi j h
     ·obtain rfl:j=m:=by omega
      exact e
    ·exact .inr ⟨i,by omega,rfl,h5,h6⟩) k (by omega) ⟨#[]⟩ (.inl ⟨rfl,λj hj=>by omega⟩)
  rw [h3];simp only [AI];refine ⟨_,rfl,?_⟩;rw [if_pos hr];refine ⟨rfl,b,f,hB,?_⟩;obtain ⟨g1,g2,g3,g4⟩:=hB;rcases h4 with ⟨rfl,h4⟩ | ⟨i,hi,rfl,h5,h6⟩
  ·exact absurd g2 (h4 f g1)
  ·have:i=f:=by
    rcases Nat.lt_trichotomy i f with h | h | h
    ·have:=g4 i h;omega
    ·exact h
    ·exact absurd g2 (h6 f h)
   subst this;rfl
 ·rw [if_neg hr] at h2;injection h2 with h2 h3;subst h3;rw [if_neg (by decide)];exact ⟨_,rfl,by rw [if_neg hr]⟩
theorem TM:bt (⟨#[114,108]⟩:ByteArray) 0=114/\bt (⟨#[114,108]⟩:ByteArray) 1=108:=by constructor<;>rfl
theorem Ob (l:List Int) (hr:Ag l) (f:Nat) (hf:f<2 ^ l.length):∀ (d k i:Nat),i+d=l.length->d+1<=k->
  Cb.l0 k l (f:Int) (textN ((bitsN l.length f).take i)) (i:Int)=some (strOfNums (textN (bitsN l.length f)),true):=by
 have hbl:=Dn l.length f;have hmk:=Es l.length f hf;generalize bitsN l.length f=bs at hbl hmk;intro d
 induction d with
 | zero=>
  intro k i hi hk
  obtain ⟨m,rfl⟩:∃ m,k=m+1:=⟨k-1,by omega⟩
  rw [Cb.l0,if_neg (by omega),List.take_of_length_le (by omega)]
 | succ d ih=>
  intro k i hi hk
  obtain ⟨m,rfl⟩:∃ m,k=m+1:=⟨k-1,by omega⟩
  have hil:i<l.length:=by omega
  obtain ⟨r1,r2,r3⟩:=hr;have w1:wrap64 ((l.length:Int)-1)=(l.length:Int)-1:=by unfold wrap64;omega
  have w2:wrap64 ((l.length:Int)-1-i)=(d:Int):=by unfold wrap64;omega
  have hM:=Hf bs l.length;have hM2:Dl bs l.length<512:=WK hM (Nat.pow_le_pow_right (by omega) r3:2 ^ l.length<=2 ^ 9)
  have hsh:shr .i64 (f:Int) (d:Int)=((Dl bs (i+1):Nat):Int):=by
   rw [<- hmk];unfold shr;rw [Rr,show min d (IntKind.i64.bits)=d by simp only [IntKind.bits];omega];rw [<- E9 bs d (i+1),show i+1+d=l.length by omega]
   norm_cast
  have hM3:Dl bs (i+1)<4611686018427387904:=by
   have:=E9 bs d (i+1);rw [show i+1+d=l.length by omega] at this;have:=Nat.div_le_self (Dl bs l.length) (2 ^ d);omega
  have hbi:i<bs.length:=by omega
  have ht:(textN (bs.take i)).length<140737488355328:=by rw [FL,IT];omega
  have htk:textN (bs.take (i+1))=textN (bs.take i)++[if bs[i]=true then 108 else 114]:=by
   unfold textN;rw [List.take_succ_eq_append_getElem hbi,List.map_append];rfl
  have hb:=H5 bs i;rw [WH hbi] at hb;rw [Cb.l0,if_pos (by omega),w1,w2,if_pos (by omega),hsh,G9 _ hM3,if_pos (by omega),if_pos (by omega),if_pos ht,At (by omega),hb]
  cases hbb:bs[i] with
  | true=>
   rw [hbb,if_pos rfl] at htk
   rw [if_pos rfl,show ((1:Nat):Int)=1 from rfl,TM.2,<- htk,ih m (i+1) (by omega) (by omega)]
  | false=>
   rw [hbb,if_neg (by decide)] at htk;rw [if_neg (by decide),show ((0:Nat):Int)=0 from rfl,TM.1,<- htk,ih m (i+1) (by omega) (by omega)]
theorem Kv (l:List Int) (hl:l.length<=1048576) (k:Nat) (hk:l.length+600<=k):∃ r,Cb.f k l=some r/\(if Ag l then r.2=true/\∃ b f,Best l (2 ^ l.length) b f/\r.1=strOfNums (textN (bitsN l.length f)) else r=(⟨#[]⟩,false)):=by
 unfold Cb.f;rw [Gx l hl k (by omega)];simp only [AI,Wq];by_cases hr:Ag l
 ·have h9:=pow9 hr;have hl9:=hr.2.2;obtain ⟨b,f,h1,hB⟩:=Jx l hr k (by omega);rw [if_pos hr,h1];simp only [AI];have:=Ob l hr f hB.1 l.length k 0 (by omega) (by omega);rw [show ((0:Nat):Int)=0 from rfl] at this;refine ⟨_,this,?_⟩;rw [if_pos hr];exact ⟨rfl,b,f,hB,rfl⟩
 ·rw [if_neg hr];exact ⟨_,rfl,by rw [if_neg hr]⟩
theorem Nz (l:List Int) (hl:l.length<=1048576) (k k':Nat) (hk:l.length+600<=k) (hk':l.length+600<=k'):∃ r,BL.f k l=some r/\Cb.f k' l=some r/\(if Ag l then r.2=true/\∃ b f,Best l (2 ^ l.length) b f/\r.1=strOfNums (textN (bitsN l.length f)) else r=(⟨#[]⟩,false)):=by
 obtain ⟨r,h1,h2⟩:=J9 l hl k hk;obtain ⟨r',g1,g2⟩:=Kv l hl k' hk'
 have e:r'=r:=by
  by_cases hr:Ag l
  ·rw [if_pos hr] at h2 g2;obtain ⟨h3,b,f,hB,h4⟩:=h2;obtain ⟨g3,b',f',hB',g4⟩:=g2;have:=Im hB hB';rw [<- this.2,<- h4] at g4;exact Prod.ext g4 (g3.trans h3.symm)
  ·rw [if_neg hr] at h2 g2;rw [h2,g2]
 subst e;exact ⟨r',h1,g1,g2⟩

end U
namespace U
end U
namespace U
def cntR:Nat->(Nat->Bool)->Nat
 | 0,_=>0
 | N+1,g=>cntR N g+if g N=true then 1 else 0
theorem Gp (g:Nat->Bool):∀ N,cntR N g<=N
 | 0=>Wn _
 | N+1=>by
  have:=Gp g N;rw [cntR];split<;>omega
theorem Fq {g h:Nat->Bool}:∀ N,(∀ i,i<N->g i=h i)->cntR N g=cntR N h
 | 0,_=>rfl
 | N+1,e=>by rw [cntR,cntR,Fq N (λi hi=>e i (by omega)),e N (by omega)]
theorem Mv (g:Nat->Bool) (N:Nat):∀ M,cntR (N+M) g=cntR N g+cntR M λi=>g (N+i)
 | 0=>rfl
 | M+1=>by rw [<- Nat.add_assoc,cntR,cntR,Mv g N M];omega
theorem Mw (g:Nat->Bool):∀ N,cntR (2*N) g=cntR N (λi=>g (2*i))+cntR N λi=>g (2*i+1)
 | 0=>rfl
 | N+1=>by rw [show 2*(N+1)=2*N+1+1 by omega,cntR,cntR,cntR,cntR,Mw g N];omega
def sgn:List Int->Int->Nat
 | [],t=>if t=0 then 1 else 0
 | x::l,t=>sgn l (t-x)+sgn l (t+x)
theorem JU:∀ (l:List Int) (t:Int),sgn l (-t)=sgn l t
 | [],t=>by
  unfold sgn;by_cases h:t=0
  ·rw [if_pos h,if_pos (by omega)]
  ·rw [if_neg h,if_neg (by omega)]
 | x::l,t=>by
  rw [sgn,sgn,show -t-x = -(t+x) by omega,show -t+x = -(t-x) by omega,JU l (t+x),JU l (t-x)];omega
def selN:List Int->Nat->Int
 | [],_=>0
 | x::l,m=>((m % 2:Nat):Int)*x+selN l (m / 2)
theorem M9 (x:Int) (l:List Int) (i:Nat):selN (x::l) (2*i+1)=x+selN l i:=by
 rw [selN,show (2*i+1) % 2=1 by omega,show (2*i+1) / 2=i by omega];omega
theorem PM (x:Int) (l:List Int) (i:Nat):selN (x::l) (2*i)=selN l i:=by
 rw [selN,show (2*i) % 2=0 by omega,show (2*i) / 2=i by omega];omega
theorem Jk:∀ (l:List Int) (t:Int),cntR (2 ^ l.length) (λm=>decide (2*selN l m-l.sum=t))=sgn l t
 | [],t=>by
  by_cases h:t=0
  ·subst h;rfl
  ·simp [cntR,selN,sgn,h,Ne.symm h]
 | x::l,t=>by
  rw [It,Nat.pow_succ,Nat.mul_comm,Mw,sgn,<- Jk l (t-x),<- Jk l (t+x),Nat.add_comm];congr 1
  ·refine Fq _ λi _=>?_;rw [M9,List.sum_cons,decide_eq_decide];omega
  ·refine Fq _ λi _=>?_;rw [PM,List.sum_cons,decide_eq_decide];omega
theorem PE (x:Int) (l:List Int):2*cntR (2 ^ l.length) (λi=>decide (2*selN (x::l) (2*i+1)=(x::l).sum))=sgn (x::l) 0:=by
 rw [sgn,show (0:Int)-x = -(0+x) by omega,JU,<- JU l (0+x),<- Jk l (-(0+x)),Fq (h:=λm=>decide (2*selN l m-l.sum = -(0+x)))]
 ·omega
 ·intro i _;rw [M9,List.sum_cons,decide_eq_decide];omega
theorem Ng (n m:Nat) (j:Nat) (hj:j<=n) (h2:j<n) (b:Nat):(b*2 ^ n+m) / 2 ^ j % 2=m / 2 ^ j % 2:=by
 have e:2 ^ n=2 ^ j*(2*2 ^ (n-j-1)):=by
  rw [show (2:Nat)*2 ^ (n-j-1)=2 ^ (n-j-1+1) by rw [Nat.pow_succ];omega,<- Nat.pow_add];congr 1;omega
 have hp:0<2 ^ j:=Nat.pow_pos (by omega);rw [e,show b*(2 ^ j*(2*2 ^ (n-j-1)))=2 ^ j*(b*(2*2 ^ (n-j-1))) by rw [Nat.mul_left_comm],Nat.mul_add_div hp,show b*(2*2 ^ (n-j-1))=2*(b*2 ^ (n-j-1)) by rw [Nat.mul_left_comm]];omega
theorem KZ (n m b:Nat) (hm:m<2 ^ n) (hb:b<2):bitsN (n+1) (b*2 ^ n+m)=decide (b=1)::bitsN n m:=by
 apply List.ext_getElem?;intro i;rcases Nat.lt_or_ge i (n+1) with h | h
 ·rw [GH _ _ _ h]
  cases i with
  | zero=>
   have hp:0<2 ^ n:=Nat.pow_pos (by omega)
   rw [List.getElem?_cons_zero,show n+1-1-0=n by omega,show (b*2 ^ n+m) / 2 ^ n=b by rw [Nat.mul_comm,Nat.mul_add_div hp,Nat.div_eq_of_lt hm];omega,show b % 2=b by omega]
  | succ i=>
   rw [List.getElem?_cons_succ,GH _ _ _ (by omega),Ng n m _ (by omega) (by omega),show n+1-1-(i+1)=n-1-i by omega]
 ·rw [List.getElem?_eq_none (by rw [Dn];omega),List.getElem?_eq_none (by rw [It,Dn];omega)]
def finN:List Int->List Bool->Int
 | x::l,b::bs=>(if b=true then -x else x)+finN l bs
 | _,_=>0
theorem Jm:∀ (l:List Int) (bs:List Bool) (e:Int×Int×Int),(steps l bs e).1=e.1+finN l bs
 | [],_,e=>by simp [steps,finN]
 | x::l,[],e=>by simp [steps,finN]
 | x::l,b::bs,e=>by
  rw [steps,Jm,finN];dsimp only;split<;>omega
theorem FN:∀ (l:List Int) (t:Int),cntR (2 ^ l.length) (λm=>decide (finN l (bitsN l.length m)=t))=sgn l t
 | [],t=>by
  by_cases h:t=0
  ·subst h;rfl
  ·simp [cntR,finN,sgn,h,Ne.symm h]
 | x::l,t=>by
  rw [It,Nat.pow_succ,show 2 ^ l.length*2=2 ^ l.length+2 ^ l.length by omega,Mv,sgn,<- FN l (t-x),<- FN l (t+x)];congr 1
  ·refine Fq _ λi hi=>?_;have:=KZ l.length i 0 hi (by omega);rw [Nat.zero_mul,Nat.zero_add] at this;rw [this,decide_eq_decide];simp only [finN];rw [if_neg (by decide)];omega
  ·refine Fq _ λi hi=>?_;have:=KZ l.length i 1 hi (by omega);rw [Nat.one_mul] at this;rw [this,decide_eq_decide];simp only [finN];rw [if_pos (by decide)];omega

end U
namespace U
theorem Os (l:List Int) (hr:Ag l) (hl:l.length<=1048576) (k:Nat) (hk:l.length+600<=k):Cw.f k l=some ((sgn l 0:Int),true):=by
 have h9:=pow9 hr;have hn:=hr.2.2;unfold Cw.f;rw [EG l hl k (by omega)];simp only [AI];rw [if_pos (by simpa using hr)]
 obtain ⟨s',e1,e2⟩:=folds Cw.step l hr (λm s=>s=(cntR m (λm=>decide (finN l (bitsN l.length m)=0)):Nat)) (by
  intro m s hm hs;subst hs;refine ⟨_,rfl,?_⟩;have hc:=Gp (λm=>decide (finN l (bitsN l.length m)=0)) m;rw [Jm,cntR];simp only [Int.zero_add,Wq];split
  ·unfold wrap64;omega
  ·omega) k (by omega) 0 rfl
 rw [e1,e2,FN];rfl

end U
namespace U
def up (xs:List Int):Prop:=xs.Pairwise (λa b=>a<b)
theorem Lx:∀ (xs ys:List Int),up xs->up ys->(∀ x,x∈xs↔x∈ys)->xs=ys
 | [],[],_,_,_=>rfl
 | [],y::ys,_,_,h=>absurd ((h y).mpr TO) (by simp)
 | x::xs,[],_,_,h=>absurd ((h x).mp TO) (by simp)
 | x::xs,y::ys,hx,hy,h=>by
  unfold up at hx hy;rw [List.pairwise_cons] at hx hy
  have hxy:x=y:=by
   rcases Wy.mp ((h x).mp TO) with e | e
   ·exact e
   ·rcases Wy.mp ((h y).mpr TO) with e' | e'
    ·exact e'.symm
    ·have h1:=hy.1 x e;have h2:=hx.1 y e';omega
  subst hxy;congr 1;refine Lx xs ys hx.2 hy.2 (λz=>⟨λhz=>?_,λhz=>?_⟩)
  ·rcases Wy.mp ((h z).mp (S2 _ hz)) with e | e
   ·have:=hx.1 z hz;omega
   ·exact e
  ·rcases Wy.mp ((h z).mpr (S2 _ hz)) with e | e
   ·have:=hy.1 z hz;omega
   ·exact e
theorem K5 (d:Array Int) (hs:∀ i j,i<=j->j<d.size->d[i]!<=d[j]!):∀ m,m<=d.size->up (Lib.compactUpTo d m)/\(∀ x,x∈Lib.compactUpTo d m↔∃ j,j<m/\d[j]! = x)
 | 0,_=>by
  refine ⟨by simp [up,Lib.compactUpTo],λx=>?_⟩
  simp [Lib.compactUpTo]
 | m+1,h=>by
  obtain ⟨h1,h2⟩:=K5 d hs m (by omega);rw [Lib.compactUpTo_succ];by_cases hk:Lib.keeps d m=true
  ·rw [if_pos hk];refine ⟨?_,λx=>?_⟩
   ·unfold up at h1 ⊢;rw [List.pairwise_append];refine ⟨h1,List.pairwise_singleton _ _,?_⟩;intro a ha b hb;obtain rfl:b=d[m]!:=by simpa using hb
    obtain ⟨j,hj,rfl⟩:=(h2 a).mp ha;have h3:m=0\/d[m]!≠d[m-1]!:=by simpa [Lib.keeps] using hk
    have h4:=hs j (m-1) (by omega) (by omega);have h5:=hs (m-1) m (by omega) (by omega);omega
   ·rw [Ww,h2];constructor
    ·rintro (⟨j,hj,e⟩ | hx)
     ·exact ⟨j,by omega,e⟩
     ·exact ⟨m,by omega,(by simpa using hx:x=d[m]!).symm⟩
    ·rintro ⟨j,hj,e⟩;by_cases hjm:j=m
     ·subst hjm;exact .inr (by simp [e])
     ·exact .inl ⟨j,by omega,e⟩
  ·rw [if_neg hk,List.append_nil];have h3:¬ m=0/\d[m]! = d[m-1]!:=by simpa [Lib.keeps] using hk
   refine ⟨h1,λx=>?_⟩;rw [h2];constructor
   ·rintro ⟨j,hj,e⟩;exact ⟨j,by omega,e⟩
   ·rintro ⟨j,hj,e⟩;by_cases hjm:j=m
    ·subst hjm;exact ⟨j-1,by omega,by rw [<- h3.2,e]⟩
    ·exact ⟨j,by omega,e⟩
theorem ND (zs:List Int) (hs:zs.Pairwise (λa b=>a<=b)):up (Lib.compact zs)/\∀ x,x∈Lib.compact zs↔x∈zs:=by
 have hd:∀ i (h:i<zs.length),zs.toArray[i]! = zs[i]:=λi h=>by simp [h]
 obtain ⟨h1,h2⟩:=K5 zs.toArray (λi j hij hj=>by
  have hj':j<zs.length:=by simpa using hj
  rw [hd i (by omega),hd j hj'];by_cases e:i=j
  ·subst e;exact Int.le_refl _
  ·exact (List.pairwise_iff_getElem.mp hs) i j (by omega) hj' (by omega)) zs.length (by simp)
 refine ⟨h1,λx=>?_⟩;unfold Lib.compact;rw [h2];constructor
 ·rintro ⟨j,hj,rfl⟩;rw [hd j hj];exact Wk hj
 ·intro hx;obtain ⟨j,hj,rfl⟩:=List.getElem_of_mem hx;exact ⟨j,hj,hd j hj⟩
theorem Jl (s:List Int):up (Lib.compact (s.mergeSort (λx y=>decide (x<=y))))/\∀ x,x∈Lib.compact (s.mergeSort (λx y=>decide (x<=y)))↔x∈s:=by
 have h:=List.pairwise_mergeSort (le:=λx y:Int=>decide (x<=y)) (λa b c h1 h2=>by simp only [Wq] at *;omega) (λa b=>by simp only [Bool.or_eq_true,Wq];omega) s;have h':(s.mergeSort (λx y=>decide (x<=y))).Pairwise (λa b=>a<=b):=h.imp (λh=>by simpa using h);obtain ⟨h1,h2⟩:=ND _ h';exact ⟨h1,λx=>by rw [h2,List.mem_mergeSort]⟩

end U
namespace U
def endN (l:List Int) (m:Nat):Int:=(steps l (bitsN l.length m) (0,0,0)).1
theorem Ls:∀ (l:List Int) (bs:List Bool) (p lo hi:Int),(∀ x∈l,1<=x/\x<=60)->p-l.sum<=(steps l bs (p,lo,hi)).1/\(steps l bs (p,lo,hi)).1<=p+l.sum
 | [],bs,p,lo,hi,_=>by unfold steps;simp
 | x::l,[],p,lo,hi,h=>by
  have h1:∀ l:List Int,(∀ x∈l,1<=x/\x<=60)->0<=l.sum:=by
   intro l
   induction l with
   | nil=>intro _;simp
   | cons y r ih=>
    intro h;have:=ih (λz hz=>h z (S2 _ hz));have:=h y TO;rw [List.sum_cons];omega
  have:=h1 _ h;unfold steps;simp only
  omega
 | x::l,b::bs,p,lo,hi,h=>by
  have hx:=h x TO;have key:=λp' lo' hi'=>Ls l bs p' lo' hi' (λy hy=>h y (S2 _ hy));unfold steps;rw [List.sum_cons];simp only;generalize hq:(if b=true then p-x else p+x)=q;have:=key q (mn lo q) (mx hi q);have hqq:p-x<=q/\q<=p+x:=by rw [<- hq];split<;>omega
  omega
theorem JG:∀ (l:List Int) (n:Nat) (p lo hi:Int),n=l.length->(steps l (List.replicate n false) (p,lo,hi)).1=p+l.sum
 | [],n,p,lo,hi,h=>by subst h;unfold steps;simp
 | x::l,n,p,lo,hi,h=>by
  subst h;rw [It,List.replicate_succ];unfold steps;rw [List.sum_cons];simp only [Bool.false_eq_true,if_false];rw [JG l _ _ _ _ rfl];omega
theorem O5 (n:Nat):bitsN n 0=List.replicate n false:=by
 apply List.ext_getElem?;intro i;by_cases h:i<n
 ·rw [GH n 0 i h,List.getElem?_replicate,if_pos h];simp
 ·rw [List.getElem?_eq_none (by rw [Dn];omega),List.getElem?_eq_none (by simp;omega)]
theorem MA (l:List Int):endN l 0=l.sum:=by
 unfold endN;rw [O5,JG l _ _ _ _ rfl];omega
theorem NF {l:List Int} (hr:Ag l) (m:Nat):-l.sum<=endN l m/\endN l m<=l.sum:=by
 have:=Ls l (bitsN l.length m) 0 0 0 hr.1;unfold endN;omega
theorem GA:∀ (l:List Int),(∀ x∈l,1<=x/\x<=60)->(l.length:Int)<=l.sum/\l.sum<=60*l.length
 | [],_=>by simp
 | x::l,hx=>by
  have:=GA l (λz hz=>hx z (S2 _ hz));have:=hx x TO;simp only [It,List.sum_cons];omega
def Fz (l:List Int) (m:Nat):List Int:=((List.range m).map (endN l)).filter (λx=>decide (0<=x))
theorem MB (l:List Int) (m:Nat):Fz l (m+1)=Fz l m++(if 0<=endN l m then [endN l m] else []):=by
 unfold Fz;rw [List.range_succ,List.map_append,List.filter_append];congr 1;by_cases h:0<=endN l m<;>simp [h]
theorem HJ (l:List Int) (m:Nat):(Fz l m).length<=m:=by
 unfold Fz;have:=List.length_filter_le (λx=>decide ((0:Int)<=x)) ((List.range m).map (endN l));rw [NO,List.length_range] at this;exact this
theorem J5 (l:List Int) (m:Nat) (x:Int):x∈Fz l m↔0<=x/\∃ j,j<m/\endN l j=x:=by
 unfold Fz;rw [List.mem_filter,List.mem_map];simp only [List.mem_range,Wq];exact ⟨λh=>⟨h.2,h.1⟩,λh=>⟨h.2,h.1⟩⟩
def E7 (l:List Int):List Int:=Lib.compact ((Fz l (2 ^ l.length)).mergeSort (λx y=>decide (x<=y)))
theorem Ix (l:List Int) (x:Int):x∈E7 l↔0<=x/\∃ j,j<2 ^ l.length/\endN l j=x:=by
 unfold E7;rw [(Jl _).2,J5]
theorem ends_in {l:List Int} (hr:Ag l):∀ x∈E7 l,0<=x/\x<=540:=by
 intro x hx;obtain ⟨h1,j,_,rfl⟩:=(Ix l x).mp hx;have:=NF hr j;have:=GA l hr.1;have:=hr.2.2;omega
theorem MC {l:List Int} (hr:Ag l):1<=(E7 l).length/\(E7 l).length<=512:=by
 have h9:=pow9 hr;have h1:=Lib.compact_length_le ((Fz l (2 ^ l.length)).mergeSort (λx y=>decide (x<=y)));have h2:=HJ l (2 ^ l.length);rw [List.length_mergeSort] at h1;refine ⟨?_,by unfold E7;omega⟩;have hs:=GA l hr.1;have hmem:l.sum∈E7 l:=(Ix l l.sum).mpr ⟨by omega,0,Nat.pow_pos (by omega),MA l⟩;exact List.length_pos_of_mem hmem
theorem Pf (l:List Int) (hl:l.length<=1048576) (k:Nat) (hk:2 ^ l.length+l.length+2<=k\/¬ Ag l/\l.length+1<=k):Ba.f k l=some (if Ag l then (E7 l,true) else ([],false)):=by
 unfold Ba.f
 rw [EG l hl k (by
  rcases hk with h | h
  ·have:=Nat.pow_pos (n:=l.length) (show 0<2 by omega);omega
  ·exact h.2)]
 simp only [AI,Wq];by_cases hr:Ag l
 ·rw [if_pos hr,if_pos hr];have h9:=pow9 hr;have hk:=hk.resolve_right (λh=>h.1 hr)
  obtain ⟨s,h1,h2⟩:=folds Ba.step l hr (λm s=>s=Fz l m) (λm s hm hs=>by
   subst hs;have h3:=HJ l m;rw [MB];unfold Ba.step;show ∃ s',(if 0<=endN l m then _ else _)=some s'/\_;by_cases h:0<=endN l m
   ·rw [if_pos h,if_pos (by omega),if_pos h];exact ⟨_,rfl,rfl⟩
   ·rw [if_neg h,if_neg h,List.append_nil]
    exact ⟨_,rfl,rfl⟩) k (by omega) [] (by simp [Fz])
  have h3:=HJ l (2 ^ l.length);have hs:=GA l hr.1;have hpos:0<(Fz l (2 ^ l.length)).length:=List.length_pos_of_mem ((J5 l _ l.sum).mpr ⟨by omega,0,Nat.pow_pos (by omega),MA l⟩);rw [h1,AI,h2,if_pos (by omega)];rfl
 ·rw [if_neg hr,if_neg hr]
def marks (l:List Int) (m:Nat) (n:Nat):List Bool:=(List.range n).map λ(x:Nat)=>decide (∃ j,j<m/\endN l j=(x:Int))
theorem He (l:List Int) (m n:Nat):(marks l m n).length=n:=by simp [marks]
theorem PA (l:List Int) (m n:Nat) (x:Nat) (hx:x<n) (h:endN l m=(x:Int)):(marks l m n).set x true=marks l (m+1) n:=by
 apply List.ext_getElem?;intro i;by_cases hi:i<n
 ·rw [List.getElem?_set];unfold marks;simp only [NO,List.length_range];by_cases e:x=i
  ·subst e;rw [if_pos rfl,if_pos hi,List.getElem?_map,List.getElem?_range hi];simp only [Option.map_some,AT];exact (Wo ⟨m,by omega,h⟩).symm
  ·rw [if_neg e,List.getElem?_map,List.getElem?_map,List.getElem?_range hi];simp only [Option.map_some,AT];apply decide_eq_decide.mpr;constructor
   ·rintro ⟨j,hj,e2⟩;exact ⟨j,by omega,e2⟩
   ·rintro ⟨j,hj,e2⟩;by_cases hjm:j=m
    ·subst hjm;omega
    ·exact ⟨j,by omega,e2⟩
 ·rw [List.getElem?_eq_none (by rw [List.length_set,He];omega),List.getElem?_eq_none (by rw [He];omega)]
theorem NX (l:List Int) (m n:Nat) (h:endN l m<0):marks l (m+1) n=marks l m n:=by
 unfold marks;apply List.map_congr_left;intro x _;apply decide_eq_decide.mpr;constructor
 ·rintro ⟨j,hj,e2⟩;by_cases hjm:j=m
  ·subst hjm;omega
  ·exact ⟨j,by omega,e2⟩
 ·rintro ⟨j,hj,e2⟩;exact ⟨j,by omega,e2⟩
theorem PG (l:List Int) (hr:Ag l) (n:Nat) (hn:(n:Int)=l.sum+1):∀ (d k m:Nat),m+d=2 ^ l.length->d+l.length+2<=k->
  Cn.l0 k l (marks l m n) (m:Int)=some (marks l (2 ^ l.length) n):=by
 have h9:=pow9 hr;intro d
 induction d with
 | zero=>
  intro k m hm hk
  obtain ⟨j,rfl⟩:∃ j,k=j+1:=⟨k-1,by omega⟩
  rw [Cn.l0,Fm hr,if_neg (by omega),show m=2 ^ l.length by omega]
 | succ d ih=>
  intro k m hm hk
  obtain ⟨j,rfl⟩:∃ j,k=j+1:=⟨k-1,by omega⟩
  have he:=ends5 l (bitsN l.length m) hr (Dn _ _) j (by omega);rw [Es _ _ (by omega)] at he;have hin:=NF hr m;have h1:(steps l (bitsN l.length m) (0,0,0)).1=endN l m:=rfl;rw [Cn.l0,Fm hr,if_pos (by omega),he];simp only [AI];rw [h1,At (by omega)];by_cases h:0<=endN l m
  ·obtain ⟨x,hx⟩:∃ x:Nat,endN l m=(x:Int):=⟨(endN l m).toNat,by omega⟩
   rw [if_pos h,if_pos h,He,if_pos (by omega),hx,Rr,PA l m n x (by omega) hx];exact ih j (m+1) (by omega) (by omega)
  ·rw [if_neg h,<- NX l m n (by omega)];exact ih j (m+1) (by omega) (by omega)
theorem Ti (l:List Int) (hr:Ag l) (n:Nat) (hn:(n:Int)=l.sum+1) (b:List Bool) (hb:b.length=n):∀ (d k i:Nat) (acc:List Int),i+d=n->d+1<=k->acc.length<=i->
  BX.l0 k acc b (i:Int)=some (acc++((List.range d).filter (λx=>(b.getD (i+x) false))).map (λx:Nat=>((i+x:Nat):Int)),true):=by
 have hs:=GA l hr.1;have h9:=hr.2.2;intro d
 induction d with
 | zero=>
  intro k i acc hi hk ha
  obtain ⟨m,rfl⟩:∃ m,k=m+1:=⟨k-1,by omega⟩
  rw [BX.l0,if_neg (by omega)]
  simp
 | succ d ih=>
  intro k i acc hi hk ha
  obtain ⟨m,rfl⟩:∃ m,k=m+1:=⟨k-1,by omega⟩
  have hr1:rdOf false b (i:Int)=b.getD i false:=rfl
  have hf:∀ acc':List Int,acc'++((List.range d).filter (λx=>b.getD (i+1+x) false)).map (λx:Nat=>((i+1+x:Nat):Int))=acc'++(((List.range d).map Nat.succ).filter (λx=>b.getD (i+x) false)).map (λx:Nat=>((i+x:Nat):Int)):=by
   intro acc';congr 1;rw [List.filter_map,List.map_map]
   have e1:(λx=>b.getD (i+1+x) false)=((λx=>b.getD (i+x) false)∘Nat.succ):=by
    funext x;show b.getD (i+1+x) false=b.getD (i+(x+1)) false;congr 1;omega
   have e2:(λx:Nat=>((i+1+x:Nat):Int))=((λx:Nat=>((i+x:Nat):Int))∘Nat.succ):=by
    funext x;show ((i+1+x:Nat):Int)=((i+(x+1):Nat):Int);congr 1;omega
   rw [e1,e2]
  rw [BX.l0,if_pos (by omega),if_pos (by omega),hr1,At (by omega),List.range_succ_eq_map,List.filter_cons];by_cases h:b.getD i false=true
  ·rw [if_pos h,if_pos (by omega),if_pos (by simpa using h),ih m (i+1) _ (by omega) (by omega) (by rw [IN];simp;omega),hf];simp
  ·rw [if_neg h,if_neg (by simpa using h),ih m (i+1) _ (by omega) (by omega) (by omega),hf]
theorem Pg (l:List Int) (hl:l.length<=1048576) (k:Nat) (hk:2 ^ l.length+l.length+600<=k\/¬ Ag l/\l.length+1<=k):BX.f k l=some (if Ag l then (E7 l,true) else ([],false)):=by
 unfold BX.f
 rw [Gx l hl k (by
  rcases hk with h | h
  ·have:=Nat.pow_pos (n:=l.length) (show 0<2 by omega);omega
  ·exact h.2)]
 simp only [AI,Wq];by_cases hr:Ag l
 ·rw [if_pos hr,if_pos hr];have h9:=pow9 hr;have hs:=GA l hr.1;have h91:=hr.2;have hk:=hk.resolve_right (λh=>h.1 hr);have hpz:=WC (2 ^ l.length);unfold Cn.f;rw [Gz l (by omega) hr.1 k (by omega)];simp only [AI];have hw:wrap64 (l.sum+1)=l.sum+1:=by unfold wrap64;omega
  obtain ⟨n,hn⟩:∃ n:Nat,(n:Int)=l.sum+1:=⟨(l.sum+1).toNat,by omega⟩
  have h0:marks l 0 n=List.replicate n false:=by
   unfold marks;apply List.ext_getElem?;intro i;by_cases hi:i<n
   ·rw [List.getElem?_map,List.getElem?_range hi,List.getElem?_replicate,if_pos hi];simp
   ·rw [List.getElem?_eq_none (by simp;omega),List.getElem?_eq_none (by simp;omega)]
  rw [hw,<- hn,if_pos (by omega),if_pos (by omega),Rr,<- h0];have hre:=PG l hr n hn (2 ^ l.length) k 0 (by omega) (by omega);rw [show ((0:Nat):Int)=0 from rfl] at hre;rw [hre,AI];have hse:=Ti l hr n hn (marks l (2 ^ l.length) n) (He _ _ _) n k 0 [] (by omega) (by omega) (by simp);rw [show ((0:Nat):Int)=0 from rfl] at hse;rw [hse,Ws];congr 2;apply Lx
  ·unfold up;rw [List.pairwise_map];refine List.Pairwise.imp ?_ (List.Pairwise.filter _ List.pairwise_lt_range);intro a b hab;omega
  ·exact (Jl _).1
  ·intro x;rw [Ix,List.mem_map];constructor
   ·rintro ⟨y,hy,rfl⟩;rw [List.mem_filter,List.mem_range] at hy;have hy2:=hy.2;rw [Nat.zero_add] at hy2;unfold marks at hy2;rw [WI,List.getElem?_map,List.getElem?_range hy.1] at hy2;simp only [Option.map_some,Option.getD_some,Wq] at hy2;refine ⟨by omega,?_⟩;rw [Nat.zero_add];exact hy2
   ·rintro ⟨hx,j,hj,e⟩;have:=NF hr j;refine ⟨x.toNat,?_,by omega⟩;rw [List.mem_filter,List.mem_range];have hxn:x.toNat<n:=by omega
    refine ⟨hxn,?_⟩;unfold marks;rw [Nat.zero_add,WI,List.getElem?_map,List.getElem?_range hxn];simp only [Option.map_some,Option.getD_some,Wq];exact ⟨j,hj,by omega⟩
 ·rw [if_neg hr,if_neg hr]
theorem IP:∀ (l:List Int) (bs:List Bool) (p lo hi:Int),l.length<=bs.length->((steps l bs (p,lo,hi)).1-p-l.sum) % 2=0
 | [],bs,p,lo,hi,_=>by
  unfold steps
  simp
 | x::l,[],p,lo,hi,h=>by simp at h
 | x::l,b::bs,p,lo,hi,h=>by
  have key:=λp' lo' hi'=>IP l bs p' lo' hi' (by simpa using h);unfold steps;rw [List.sum_cons];simp only;generalize hq:(if b=true then p-x else p+x)=q;have:=key q (mn lo q) (mx hi q);have hqq:q=p-x\/q=p+x:=by rw [<- hq];split<;>simp
  omega
theorem Lw:∀ (xs:List Int) (lo hi r:Int),up xs->(∀ x∈xs,lo<=x/\x<=hi/\x % 2=r)->lo<=hi+2->2*(xs.length:Int)<=hi-lo+2
 | [],lo,hi,r,_,_,h=>by
  simp only [IS]
  omega
 | x::xs,lo,hi,r,hu,hx,h=>by
  unfold up at hu;rw [List.pairwise_cons] at hu;have h0:=hx x TO
  have ih:=Lw xs (x+2) hi r hu.2 (λy hy=>by
   have h1:=hu.1 y hy;have h2:=hx y (S2 _ hy)
   omega) (by omega)
  rw [It];omega
theorem Qy {l:List Int} (hr:Ag l):(E7 l).length<=271:=by
 have hs:=GA l hr.1;have h9:=hr.2
 have h:=Lw (E7 l) 0 540 (l.sum % 2) (Jl _).1 (λx hx=>by
  have h1:=ends_in hr x hx;obtain ⟨_,j,_,e⟩:=(Ix l x).mp hx;have h2:=IP l (bitsN l.length j) 0 0 0 (by rw [Dn];omega);have h3:(steps l (bitsN l.length j) (0,0,0)).1=x:=e;rw [h3] at h2
  omega) (by omega)
 omega

end U
namespace U
theorem PS (a out:List Int) (i:Nat) (hi:i<a.length) (hl:out.length<=900):∀ (j k:Nat),j<=out.length->j+1<=k->(∀ t:Nat,j<=t->t<out.length->rd a (i:Int)<rd out (t:Int))->∃ j' m:Nat,j'<=j/\k<=m+j+1/\BP.l1 k a out (i:Int) (j:Int)=BP.l0 m a ((([]++out.take j')++[rd a (i:Int)])++out.drop j') (wrap64 ((i:Int)+1))/\(∀ t:Nat,j'<=t->t<out.length->rd a (i:Int)<rd out (t:Int))/\(0<j'->rd out ((j'-1:Nat):Int)<=rd a (i:Int)):=by
 intro j
 induction j with
 | zero=>
  intro k h1 h2 h3
  obtain ⟨m,rfl⟩:∃ m,k=m+1:=⟨k-1,by omega⟩
  rw [BP.l1,if_pos (by omega),if_pos (by omega),if_pos (by omega),if_pos (by omega),if_pos (by omega),if_neg (by omega)]
  exact ⟨0,m,Wn _,by omega,rfl,h3,λh=>absurd h (by omega)⟩
 | succ j ih=>
  intro k h1 h2 h3
  obtain ⟨m,rfl⟩:∃ m,k=m+1:=⟨k-1,by omega⟩
  rw [BP.l1,if_pos (by omega),if_pos (by omega),if_pos (by omega),if_pos (by omega),if_pos (by omega),if_pos (by omega),show wrap64 (((j+1:Nat):Int)-1)=(j:Int) by unfold wrap64;omega,if_pos (by omega),if_pos (by omega)];split
  ·next hc=>
   obtain ⟨j',m',h4,h5,h6⟩:=ih m (by omega) (by omega) (λt ht ht2=>by
    by_cases h:t=j
    ·rw [h];exact hc
    ·exact h3 t (by omega) ht2)
   exact ⟨j',m',by omega,by omega,h6⟩
  ·next hc=>exact ⟨j+1,m,Wn _,by omega,rfl,h3,λ_=>by rw [Nat.add_sub_cancel];omega⟩
theorem PY (a:List Int) (i:Nat) (h:i<a.length):a.take (i+1)=a.take i++[rd a (i:Int)]:=by
 rw [List.take_succ_eq_append_getElem h,B9 h]
def Asc (l:List Int):Prop:=l.Pairwise (·<=·)
theorem Nw {out:List Int} {v:Int} {j:Nat} (hs:Asc out) (h1:∀ x∈out.take j,x<=v) (h2:∀ x∈out.drop j,v<=x):Asc ((([]++out.take j)++[v])++out.drop j):=by
 unfold Asc at hs ⊢;rw [Ws,Wr,List.pairwise_append];refine ⟨hs.sublist (List.take_sublist _ _),?_,?_⟩
 ·rw [List.singleton_append,List.pairwise_cons];exact ⟨h2,hs.sublist (List.drop_sublist _ _)⟩
 ·intro x hx y hy;rw [List.singleton_append] at hy;rcases Wy.mp hy with rfl | hy
  ·exact h1 x hx
  ·exact WB (h1 x hx) (h2 y hy)
theorem Qi {l:List Int} (h:Asc l) {i j:Nat} (hij:i<j) (hj:j<l.length):rd l (i:Int)<=rd l (j:Int):=by
 rw [B9 (by omega),B9 hj];exact List.pairwise_iff_getElem.mp h i j (by omega) hj hij
theorem Sg {l:List Int} (h:Asc l):asc l:=λj hj h0=>Qi h (by omega) hj
theorem PR (a:List Int) (hl:a.length<=900):∀ (d k i:Nat) (out:List Int),i+d=a.length->out.length=i->(a.length+2)*d+1<=k->out.Perm (a.take i)->Asc out->∃ r,BP.l0 k a out (i:Int)=some r/\r.Perm a/\Asc r:=by
 intro d
 induction d with
 | zero=>
  intro k i out h1 h2 h3 h4 hs
  obtain ⟨m,rfl⟩:∃ m,k=m+1:=⟨k-1,by omega⟩
  rw [BP.l0,if_neg (by omega)]
  exact ⟨out,rfl,by rw [List.take_of_length_le (by omega)] at h4;exact h4,hs⟩
 | succ d ih=>
  intro k i out h1 h2 h3 h4 hs;rw [Nat.mul_succ] at h3
  obtain ⟨m,rfl⟩:∃ m,k=m+1:=⟨k-1,by omega⟩
  rw [BP.l0,if_pos (by omega)];obtain ⟨j,m',h6,h5,h9,h7,h8⟩:=PS a out i (by omega) (by omega) out.length m (Wn _) (by omega) (λt ht ht2=>by omega);rw [h9,show wrap64 ((i:Int)+1)=((i+1:Nat):Int) by unfold wrap64;omega];refine ih m' (i+1) _ (by omega) ?_ (by omega) ?_ ?_
  ·simp only [IN,IT,No,IS,It];omega
  ·rw [Ws,PY a i (by omega)];refine List.Perm.trans (List.perm_append_right_iff _ |>.mpr List.perm_append_comm) ?_;rw [Wr,List.take_append_drop];exact List.perm_append_comm.trans (h4.append_right _)
  ·refine Nw hs (λx hx=>?_) (λx hx=>?_)
   ·obtain ⟨t,ht,rfl⟩:=List.mem_iff_getElem.mp hx;rw [IT] at ht;rw [List.getElem_take];have hj0:0<j:=by omega
    have h9:=h8 hj0;have e:rd out (t:Int)=out[t]:=B9 (by omega);rw [<- e];by_cases htj:t=j-1
    ·rw [htj];exact h9
    ·exact WB (Qi hs (show t<j-1 by omega) (by omega)) h9
   ·obtain ⟨t,ht,rfl⟩:=List.mem_iff_getElem.mp hx;rw [No] at ht;rw [List.getElem_drop];have:=h7 (j+t) (by omega) (by omega);rw [B9 (show j+t<out.length by omega)] at this;omega
def sortL (a:List Int):List Int:=a.mergeSort (λx y=>decide (x<=y))
theorem Kq (a:List Int):(sortL a).Perm a:=List.mergeSort_perm _ _
theorem Lp (a:List Int):Asc (sortL a):=by
 have h:=List.pairwise_mergeSort (le:=λ(x y:Int)=>decide (x<=y)) (λx y z h1 h2=>by
  rw [Wq] at *
  omega) (λx y=>by
  rw [Bool.or_eq_true,Wq,Wq]
  omega) a
 exact h.imp (λh=>of_decide_eq_true h)
theorem Sh {l r:List Int} (hp:l.Perm r) (h1:Asc l) (h2:Asc r):l=r:=
 List.Perm.eq_of_pairwise (le:=λ(x y:Int)=>x<=y) (λx y _ _ h1 h2=>Int.le_antisymm h1 h2) h1 h2 hp
theorem Tl (a:List Int) (hl:a.length<=900) (k:Nat) (hk:(a.length+2)*a.length+1<=k):BP.f k a=some (sortL a):=by
 unfold BP.f;obtain ⟨r,h1,h2,h3⟩:=PR a hl a.length k 0 [] (by omega) rfl (by omega) (by simp) List.Pairwise.nil;have h1:BP.l0 k a [] 0=some r:=h1;rw [h1,Sh (h2.trans (Kq a).symm) h3 (Lp a)]
theorem N7 {l r:List Int} (hp:l.Perm r) (h:Ag l):Ag r:=⟨λx hx=>h.1 x (hp.mem_iff.mpr hx),by rw [<- hp.length_eq];exact h.2.1,by rw [<- hp.length_eq];exact h.2.2⟩
def Oa (a:List Int):List Int×Bool:=if Ag a then (sortL a,true) else ([],false)
theorem JE {a:List Int} (h:Ag a):AM (sortL a):=⟨N7 (Kq a).symm h,Sg (Lp a)⟩
theorem Tm (a:List Int) (hl:a.length<=1048576) (k:Nat) (hk:a.length+10<=k):Cy.f k a=some (Oa a):=by
 unfold Cy.f Oa;rw [EG a hl k (by omega),AI];by_cases hr:Ag a
 ·have h9:=hr.2.2;have h1:=hr.2.1;rw [Wo hr,if_pos rfl,if_pos hr];unfold Aj.f;rw [if_pos (by omega),if_pos (by omega),AI,Ws];rfl
 ·rw [Wp hr,if_neg (by decide),if_neg hr]

end U
namespace U
theorem Pc:∀ n:Nat,n<100->AE.f 3 (n:Int)=some ⟨(Lib.decDigits n).toArray⟩:=by decide +kernel
theorem Pd (n k:Nat) (h:n<100) (hk:3<=k):AE.f k (n:Int)=some ⟨(Lib.decDigits n).toArray⟩:=Fb (AE.mono (n:Int)) hk (Pc n h)
theorem J4:∀ n:Nat,n<100->(⟨(Lib.decDigits n).toArray⟩:ByteArray).size<=2:=by decide +kernel
theorem Me:∀ (l:List Int),(∀ x∈l,1<=x/\x<=60)->∀ i (h:i<l.length),l[i]+((l.length:Int)-1)<=l.sum
 | [],_,i,h=>by simp at h
 | x::l,hx,0,h=>by
  have h1:∀ l:List Int,(∀ x∈l,1<=x/\x<=60)->(l.length:Int)<=l.sum:=by
   intro l
   induction l with
   | nil=>intro _;simp
   | cons y r ih=>
    intro h;have:=ih (λz hz=>h z (S2 _ hz));have:=h y TO;simp only [It,List.sum_cons];omega
  have:=h1 l (λz hz=>hx z (S2 _ hz));simp only [It,List.sum_cons,List.getElem_cons_zero]
  omega
 | x::l,hx,i+1,h=>by
  have:=Me l (λz hz=>hx z (S2 _ hz)) i (by simpa using h);have:=hx x TO;simp only [It,List.sum_cons,List.getElem_cons_succ];omega
theorem RA:∀ (l:List Int),(∀ x∈l,1<=x/\x<=60)->l.sum<=60*l.length
 | [],_=>by simp
 | x::l,hx=>by
  have:=RA l (λz hz=>hx z (S2 _ hz));have:=hx x TO;simp only [It,List.sum_cons];omega
def gapOf (l:List Int):Int:=l.sum-2*rd l ((l.length-1:Nat):Int)
theorem QO {l:List Int} (h:Ag l):-58<=gapOf l\/l.length<3:=by
 rcases Nat.lt_or_ge l.length 3 with h3 | h3
 ·exact .inr h3
 ·left;have hi:l.length-1<l.length:=by omega
  have h1:=Me l h.1 (l.length-1) hi;have h2:=h.1 _ (Wk hi);unfold gapOf;rw [B9 hi];omega
theorem QP {l:List Int} (h:Ag l):-120<=gapOf l/\gapOf l<=540:=by
 have hl:=h.2;have hi:l.length-1<l.length:=by omega
 have h1:=Me l h.1 (l.length-1) hi;have h2:=h.1 _ (Wk hi);have h3:=RA l h.1;unfold gapOf;rw [B9 hi];omega
theorem BI {x:Int} (h0:-1000000<=x) (h1:x<=1000000):wrap64 x=x:=by unfold wrap64;omega
def FM (l:List Int):ByteArray×Bool:=
 if AM l/\3<=l.length then (if gapOf l>0 then (⟨#[99,108,111,115,101,115]⟩,true) else ((⟨#[111,112,101,110,32]⟩:ByteArray)++⟨(Lib.decDigits (-gapOf l).toNat).toArray⟩,true)) else (⟨#[]⟩,false)

end U
namespace U
theorem Ib (l:List Int) (h:Ag l) (k:Nat) (hk:l.length+1<=k):Dw.f k l=some (gapOf l):=by
 have hl:=h.2;have hi:l.length-1<l.length:=by omega
 have h2:=h.1 _ (Wk hi);have g:=QP h;unfold gapOf at g;unfold Dw.f;rw [Gz l (by omega) h.1 k hk];simp only [AI];rw [Eu (by omega) (by omega),if_pos (by omega),if_pos (by omega)];unfold gapOf;rw [B9 hi] at g ⊢;rw [BI (x:=2*_) (by omega) (by omega),BI (by omega) (by omega)]
theorem Gb (l:List Int) (h:Ag l) (h3:3<=l.length) (k:Nat) (hk:l.length+1<=k):CW.f k l=some (decide (gapOf l>0)):=by
 unfold CW.f;rw [if_pos (by omega),Ib l h k hk];rfl
theorem L8 (l:List Int) (hl:l.length<=1048576) (k:Nat) (hk:l.length+10<=k):Cl.f k l=some (FM l):=by
 unfold Cl.f FM;rw [Ew l hl k (by omega)];simp only [AI,Wq]
 obtain ⟨m,rfl⟩:∃ m,k=m+1:=⟨k-1,by omega⟩
 by_cases hb:AM l
 ·rw [if_pos hb,Cl.j0];by_cases h3:3<=l.length
  ·rw [if_neg (by simp;omega),if_pos ⟨hb,h3⟩,Gb l hb.1 h3 m (by omega),Ib l hb.1 m (by omega)];simp only [AI,Wq];by_cases hg:gapOf l>0
   ·rw [if_pos hg,if_pos hg]
   ·have g1:=(QO hb.1).resolve_right (by omega);rw [if_neg hg,if_neg hg,Int.zero_sub,BI (by omega) (by omega)];have:=Pd (-gapOf l).toNat m (by omega) (by omega);rw [Int.toNat_of_nonneg (by omega)] at this;rw [this];have:=J4 (-gapOf l).toNat (by omega);simp only [AI];rw [if_pos (by omega)]
  ·rw [if_pos (by simp;omega),if_neg (λx=>h3 x.2)]
 ·rw [if_neg hb,Cl.j0,if_pos rfl,if_neg (λx=>hb x.1)]

end U
namespace U
theorem MO:∀ n:Nat,n<100->Lib.itoa (n:Int)=Lib.decDigits n:=by decide +kernel
theorem QX (n:Int) (h:0<=n/\n<100):Lib.itoa n=Lib.decDigits n.toNat:=by
 have:=MO n.toNat (by omega);rw [Int.toNat_of_nonneg (by omega)] at this;exact this
theorem HU (l:List Int) (h:Ag l) (k:Nat) (hk:l.length+1<=k):DU.f k l=some (gapOf l):=by
 have hl:=h.2;have hi:l.length-1<l.length:=by omega
 have h2:=h.1 _ (Wk hi);have g:=QP h;unfold gapOf at g;unfold DU.f;rw [Gj l (by omega) h.1 k hk];simp only [AI];rw [Eu (by omega) (by omega),if_pos (by omega),if_pos (by omega)];unfold gapOf;rw [B9 hi] at g ⊢;rw [BI (x:=2*_) (by omega) (by omega),BI (by omega) (by omega)]
theorem F7 (l:List Int) (h:Ag l) (h3:3<=l.length) (k:Nat) (hk:l.length+1<=k):CI.f k l=some (decide (gapOf l>0)):=by
 unfold CI.f;rw [if_pos (by omega),HU l h k hk];rfl
theorem LP (l:List Int) (hl:l.length<=1048576) (k:Nat) (hk:l.length+10<=k):Ck.f k l=some (FM l):=by
 unfold Ck.f FM;rw [DZ l hl k (by omega)];simp only [AI,Wq]
 obtain ⟨m,rfl⟩:∃ m,k=m+1:=⟨k-1,by omega⟩
 by_cases hb:AM l
 ·rw [if_pos hb,Ck.j0];by_cases h3:3<=l.length
  ·rw [if_neg (by simp;omega),if_pos ⟨hb,h3⟩,F7 l hb.1 h3 m (by omega),HU l hb.1 m (by omega)];simp only [AI,Wq];by_cases hg:gapOf l>0
   ·rw [if_pos hg,if_pos hg]
   ·have g1:=(QO hb.1).resolve_right (by omega);rw [if_neg hg,if_neg hg,BI (by omega) (by omega)];unfold strconv_Itoa.f;rw [if_pos ⟨by omega,by omega⟩,QX (-gapOf l) (by omega)];have:=J4 (-gapOf l).toNat (by omega);simp only [AI];rw [if_pos (by omega)]
  ·rw [if_pos (by simp;omega),if_neg (λx=>h3 x.2)]
 ·rw [if_neg hb,Ck.j0,if_pos rfl,if_neg (λx=>hb x.1)]

end U
namespace U
def rg:List Int->Nat->Option Nat
 | [],m=>some m
 | x::l,m=>if -1<=x/\x<=(m:Int) then rg l (if x=(m:Int) then m+1 else m) else none
theorem Rn:∀ (l:List Int) (m m':Nat),rg l m=some m'->m<=m'/\m'<=m+l.length
 | [],m,m',h=>by
  rw [rg] at h;injection h with h;subst h
  exact ⟨Wn _,by simp⟩
 | x::l,m,m',h=>by
  rw [rg] at h;split at h
  ·have:=Rn l _ m' h;rw [It];split at this<;>omega
  ·cases h
theorem JA (t:Int):∀ (y l:List Int),(places l t).length<=(places (l++y) t).length
 | [],l=>by rw [List.append_nil];exact Wn _
 | x::y,l=>by
  have h:=JA t y (l++[x]);rw [Wr,List.singleton_append] at h;rw [EH,IN] at h;omega
theorem JQ (a:List Int):∀ (d:Nat) (l:List Int) (m:Nat) (x:List Int),x∈gen a d l m↔∃ y m',x=l++y/\y.length=d/\rg y m=some m'/\fits a x m'=true
 | 0,l,m,x=>by
  rw [gen];constructor
  ·intro h;split at h
   ·next hf=>
    rw [Wx] at h;subst h;exact ⟨[],m,by simp,rfl,rfl,hf⟩
   ·cases h
  ·rintro ⟨y,m',rfl,h2,h3,h4⟩;have:y=[]:=List.length_eq_zero_iff.mp h2;subst this;rw [rg] at h3;injection h3 with h3;subst h3;rw [List.append_nil] at h4 ⊢;rw [if_pos h4]
   exact Wx.mpr rfl
 | d+1,l,m,x=>by
  rw [gen,List.mem_flatMap];constructor
  ·rintro ⟨e,he,h⟩;rw [List.mem_range'_1] at he;split at h
   ·cases h
   ·obtain ⟨y,m',h1,h2,h3,h4⟩:=(JQ a d _ _ x).mp h;refine ⟨((e:Int)-1)::y,m',by rw [h1,Wr];rfl,by rw [It,h2],?_,h4⟩;rw [rg,if_pos (by omega),<- h3];congr 1;split<;>split<;>omega
  ·rintro ⟨y,m',h1,h2,h3,h4⟩
   match y,h1,h2,h3 with
   | z::y,h1,h2,h3=>
    rw [rg] at h3;split at h3
    ·next hz=>
     obtain ⟨e,rfl⟩:∃ e:Nat,z=(e:Int)-1:=⟨(z+1).toNat,by omega⟩
     refine ⟨e,by rw [List.mem_range'_1];omega,?_⟩;have hle:=Rn _ _ _ h3;rw [if_neg]
     ·refine (JQ a d _ _ x).mpr ⟨y,m',by rw [h1,Wr];rfl,by simpa using h2,?_,h4⟩;rw [<- h3];congr 1;split<;>split<;>omega
     ·rintro ⟨q1,q2⟩;rw [GS] at h4;have h5:=Jp (h4 (e-1) (by split at hle<;>omega));rw [Jj,show ((e-1:Nat):Int)=(e:Int)-1 by omega,h1,show l++((e:Int)-1)::y=(l++[(e:Int)-1])++y by rw [Wr];rfl] at h5;have h6:=JA ((e:Int)-1) y (l++[(e:Int)-1]);rw [EH,if_pos rfl,IN,List.length_singleton] at h6;omega
    ·cases h3
end U
namespace U
def inN (x:List Int):Nat->Nat
 | 0=>0
 | m+1=>inN x m+(places x (m:Int)).length
theorem OE (x:List Int) (y:Int):∀ m,inN (x++[y]) m=inN x m+if 0<=y/\y<m then 1 else 0
 | 0=>by rw [inN,inN,if_neg (by omega)]
 | m+1=>by
  rw [inN,inN,OE x y m,EH,IN];by_cases h:y=(m:Int)
  ·rw [if_pos h,if_neg (by omega),if_pos (by omega)];simp only [List.length_singleton];omega
  ·rw [if_neg h];simp only [IS];by_cases h2:0<=y/\y<(m:Int)
   ·rw [if_pos h2,if_pos (by omega)];omega
   ·rw [if_neg h2,if_neg (by omega)];omega
theorem OG:∀ m,inN [] m=0
 | 0=>rfl
 | m+1=>by rw [inN,OG m];rfl
theorem QW (m:Nat):∀ (n:Nat) (x:List Int),x.length=n->inN x m<=n
 | 0,x,h=>by rw [List.length_eq_zero_iff.mp h,OG];exact Wn _
 | n+1,x,h=>by
  rcases List.eq_nil_or_concat x with rfl | ⟨y,z,rfl⟩
  ·simp at h
  ·rw [List.concat_eq_append] at h ⊢;have:=QW m n y (by simpa using h);rw [OE];split<;>omega
theorem MJ (a x:List Int):∀ m,fits a x m=true->inN x m=3*m
 | 0,_=>rfl
 | m+1,h=>by
  rw [GS] at h;have h1:=MJ a x m (GS.mpr λt ht=>h t (by omega));have h2:=Jp (h m (by omega));rw [Jj] at h2;rw [inN,h1,h2];omega
def noNeg (x:List Int):Bool:=decide ((-1:Int)∉x)

end U
namespace U
def enumE:Nat->List Int->Nat->List (List Int)
 | 0,l,_=>[l]
 | d+1,l,m=>(List.range' 0 (m+1)).flatMap λt:Nat=>if (places l (t:Int)).length=3 then [] else if 3*(if t=m then m+1 else m)>l.length+1+d then [] else enumE d (l++[(t:Int)]) (if t=m then m+1 else m)
def JP (x:List Int) (m:Nat):List (List Nat):=(List.range m).map λt:Nat=>places x (t:Int)
def lowF (s:Nat):Nat->Nat->Nat
 | 0,i=>i
 | d+1,i=>if s / 2 ^ i % 2=0 then lowF s d (i+1) else i
def tri3 (i j k:Nat):Nat:=2 ^ i ||| 2 ^ j ||| 2 ^ k
def enumT (n:Nat):Nat->Nat->List (List (List Nat))
 | 0,_=>[]
 | f+1,s=>if s=0 then [[]] else
  (List.range' (lowF s n 0+1) (n-(lowF s n 0+1))).flatMap λj=>(List.range' (j+1) (n-(j+1))).flatMap λk=>if s&&& tri3 (lowF s n 0) j k=tri3 (lowF s n 0) j k then (enumT n f (s&&& (511 ^^^ tri3 (lowF s n 0) j k))).map ([lowF s n 0,j,k]::·) else []
theorem Ph:∀ n,n<10->((enumE n [] 0).map λx=>JP x ((rg x 0).getD 0)).isPerm (enumT n (n+1) (2 ^ n-1))=true:=by decide +kernel
theorem NG:∀ n,n<10->(enumT n (n+1) (2 ^ n-1)).length<=280:=by decide +kernel
def good (a x:List Int):Bool:=match rg x 0 with
 | some m=>fits a x m
 | none=>false
theorem N6:∀ (l:List Int) (m:Nat) (y:Int),rg (l++[y]) m=(rg l m).bind λm'=>rg [y] m'
 | [],m,y=>rfl
 | x::l,m,y=>by
  rw [List.cons_append,rg,rg];split
  ·exact N6 l _ y
  ·rfl
theorem GO {α β:Type} (p:β->Bool) (f:α->List β):∀ l:List α,(l.flatMap f).filter p=l.flatMap λx=>(f x).filter p
 | []=>rfl
 | x::l=>by rw [WD,List.filter_append,GO p f l,WD]
theorem MF (a:List Int):∀ (d:Nat) (l:List Int) (m:Nat),rg l 0=some m->(-1:Int)∉l->(gen a d l m).filter noNeg=(enumE d l m).filter (good a)
 | 0,l,m,h,hn=>by
  have e:good a l=fits a l m:=by unfold good;rw [h]
  rw [gen,enumE,List.filter_cons,List.filter_nil,e];split
  ·have:noNeg l=true:=Wo hn;rw [List.filter_cons,this,if_pos rfl,List.filter_nil]
  ·rfl
 | d+1,l,m,h,hn=>by
  rw [gen,enumE,GO,GO,Wu,WD]
  have h0:(gen a d (l++[((0:Nat):Int)-1]) (if 0=m+1 then m+1 else m)).filter noNeg=[]:=by
   rw [List.filter_eq_nil_iff];intro x hx;obtain ⟨y,m',h1,_⟩:=(JQ a d _ _ x).mp hx;unfold noNeg;rw [Wq];intro h2;refine h2 ?_;rw [h1];simp
  rw [if_neg (by omega),h0,Ws]
  have step:∀ t:Nat,t<=m->((if (places l (((t+1:Nat):Int)-1)).length=3/\0<t+1 then [] else gen a d (l++[((t+1:Nat):Int)-1]) (if t+1=m+1 then m+1 else m)):List (List Int)).filter noNeg =
    (if (places l (t:Int)).length=3 then [] else if 3*(if t=m then m+1 else m)>l.length+1+d then [] else enumE d (l++[(t:Int)]) (if t=m then m+1 else m)).filter (good a):=by
   intro t ht;rw [show ((t+1:Nat):Int)-1=(t:Int) by omega];have hm:(if t+1=m+1 then m+1 else m)=if t=m then m+1 else m:=by split<;>split<;>omega
   rw [hm];by_cases h3:(places l (t:Int)).length=3
   ·rw [if_pos ⟨h3,by omega⟩,if_pos h3];rfl
   ·rw [if_neg (λq=>h3 q.1),if_neg h3]
    have hrg:rg (l++[(t:Int)]) 0=some (if t=m then m+1 else m):=by
     rw [N6,h];simp only [AI];rw [rg,if_pos (by omega),rg];congr 1;split<;>split<;>omega
    have hn':(-1:Int)∉l++[(t:Int)]:=by
     intro hh;rcases Ww.mp hh with hh | hh
     ·exact hn hh
     ·rw [Wx] at hh;omega
    by_cases hp:3*(if t=m then m+1 else m)>l.length+1+d
    ·rw [if_pos hp,List.filter_nil,List.filter_eq_nil_iff];intro x hx;obtain ⟨y,m',h1,h2,h5,h6⟩:=(JQ a d _ _ x).mp hx;have q1:=MJ a x m' h6;have q2:=QW m' x.length x rfl;have q3:=(Rn _ _ _ h5).1;have q4:x.length=l.length+1+d:=by rw [h1,IN,h2];simp
     omega
    ·rw [if_neg hp];exact MF a d _ _ hrg hn'
  have all:∀ c t,t+c=m+1->(List.range' (t+1) c).flatMap (λe:Nat=>((if (places l ((e:Int)-1)).length=3/\0<e then [] else gen a d (l++[(e:Int)-1]) (if e=m+1 then m+1 else m)):List (List Int)).filter noNeg) =
    (List.range' t c).flatMap (λt:Nat=>(if (places l (t:Int)).length=3 then [] else if 3*(if t=m then m+1 else m)>l.length+1+d then [] else enumE d (l++[(t:Int)]) (if t=m then m+1 else m)).filter (good a)):=by
   intro c
   induction c with
   | zero=>intro t _;rfl
   | succ c ih=>
    intro t ht;rw [Wu,Wu,WD,WD,step t (by omega),ih (t+1) (by omega)]
  exact all (m+1) 0 (by omega)
theorem LO (a x:List Int) (m:Nat):fits a x m=(JP x m).all λc=>three (c.map λj:Nat=>rd a (j:Int)):=by
 unfold fits JP selOf;rw [List.all_map];rfl

end U
namespace U
theorem Sf (a b:Nat) (ha:a<4611686018427387904) (hb:b<4611686018427387904):Go.bits .and .i64 (a:Int) (b:Int)=((a&&& b:Nat):Int):=by
 have hx:a&&& b<4611686018427387904:=Nat.lt_of_le_of_lt Nat.and_le_left ha
 have h1:(BitVec.ofInt 64 (a:Int)).toNat=a:=by
  rw [BitVec.ofInt_natCast,BitVec.toNat_ofNat];exact Nat.mod_eq_of_lt (by omega)
 have h2:(BitVec.ofInt 64 (b:Int)).toNat=b:=by
  rw [BitVec.ofInt_natCast,BitVec.toNat_ofNat];exact Nat.mod_eq_of_lt (by omega)
 show IntKind.i64.wrap ((BitVec.ofInt 64 (a:Int)&&& BitVec.ofInt 64 (b:Int)).toNat:Int)=_;rw [BitVec.toNat_and,h1,h2];generalize a&&& b=c at hx;simp [IntKind.wrap,IntKind.bits,IntKind.signed];omega
theorem Ns (a b:Nat) (ha:a<512) (hb:b<512):Go.bits .andNot .i64 (a:Int) (b:Int)=((a&&& (511 ^^^ b):Nat):Int):=by
 have hx:a&&& (511 ^^^ b)<512:=Nat.lt_of_le_of_lt Nat.and_le_left ha
 have h1:(BitVec.ofInt 64 (a:Int)).toNat=a:=by
  rw [BitVec.ofInt_natCast,BitVec.toNat_ofNat];exact Nat.mod_eq_of_lt (by omega)
 have h2:(BitVec.ofInt 64 (b:Int)).toNat=b:=by
  rw [BitVec.ofInt_natCast,BitVec.toNat_ofNat];exact Nat.mod_eq_of_lt (by omega)
 show IntKind.i64.wrap ((BitVec.ofInt 64 (a:Int)&&& ~~~ BitVec.ofInt 64 (b:Int)).toNat:Int)=_
 have e:(BitVec.ofInt 64 (a:Int)&&& ~~~ BitVec.ofInt 64 (b:Int)).toNat=a&&& (511 ^^^ b):=by
  rw [BitVec.toNat_and,BitVec.toNat_not,h1,h2,show 2 ^ 64-1-b=2 ^ 64-(b+1) by omega];apply Nat.eq_of_testBit_eq;intro i;rw [Nat.testBit_and,Nat.testBit_and,Nat.testBit_two_pow_sub_succ (by omega),Nat.testBit_xor,show (511:Nat)=2 ^ 9-1 from rfl,Nat.testBit_two_pow_sub_one];by_cases hi:i<9
  ·rw [Wo hi,Wo (show i<64 by omega)];cases b.testBit i<;>rfl
  ·have:a.testBit i=false:=Nat.testBit_lt_two_pow (WK ha (Nat.pow_le_pow_right (by omega) (by omega):2 ^ 9<=2 ^ i));rw [this];rfl
 rw [e];generalize a&&& (511 ^^^ b)=c at hx;simp [IntKind.wrap,IntKind.bits,IntKind.signed];omega
theorem Nd:∀ i:Nat,i<9->∀ j:Nat,j<9->∀ k:Nat,k<9->Go.bits .or .i64 (Go.bits .or .i64 (shl .i64 1 (i:Int)) (shl .i64 1 (j:Int))) (shl .i64 1 (k:Int))=((tri3 i j k:Nat):Int)/\tri3 i j k<512/\tri3 i j k / 2 ^ i % 2=1:=by decide +kernel
def sat (a:List Int) (x2:Int) (c:List Nat):Bool:=three (c.map λj:Nat=>rd a (j:Int))&&(decide (x2=0)||decide ((c.map λj:Nat=>rd a (j:Int)).sum=x2))
def DA (a:List Int) (x2:Int) (L:List (List Nat)):Bool:=L.all (sat a x2)
def brT (n f s i j k:Nat):List (List (List Nat)):=if s&&& tri3 i j k=tri3 i j k then (enumT n f (s&&& (511 ^^^ tri3 i j k))).map ([i,j,k]::·) else []
def rowT (n f s i j:Nat):List (List (List Nat)):=(List.range' (j+1) (n-(j+1))).flatMap (brT n f s i j)
theorem J6 (n f s:Nat):enumT n (f+1) s=if s=0 then [[]] else (List.range' (lowF s n 0+1) (n-(lowF s n 0+1))).flatMap (rowT n f s (lowF s n 0)):=rfl
theorem JJ (a:List Int) (x2:Int) (c:List Nat) (L:List (List (List Nat))):(L.map (c::·)).countP (DA a x2)=if sat a x2 c=true then L.countP (DA a x2) else 0:=by
 rw [List.countP_map];by_cases h:sat a x2 c=true
 ·rw [if_pos h];congr 1;funext x;simp [DA,h]
 ·rw [if_neg h,List.countP_eq_zero];intro x _;simp [DA,h]
theorem I5 {α:Type} (f:Nat->List α) (B:Nat) (h:∀ j,(f j).length<=B):∀ (c s:Nat),((List.range' s c).flatMap f).length<=c*B
 | 0,s=>by simp
 | c+1,s=>by
  rw [Wu,WD,IN,Nat.add_mul,Nat.one_mul,Nat.add_comm];exact Nat.add_le_add (I5 f B h c (s+1)) (h s)
theorem K7 (n:Nat) (hn:n<=9):∀ f s,(enumT n f s).length<=64 ^ f
 | 0,s=>by simp [enumT]
 | f+1,s=>by
  have hb:∀ i j k,(brT n f s i j k).length<=64 ^ f:=λi j k=>by
   unfold brT;split
   ·rw [NO];exact K7 n hn f _
   ·simp
  have hr:∀ i j,(rowT n f s i j).length<=8*64 ^ f:=λi j=>WA (I5 _ _ (hb i j) _ _) (Nat.mul_le_mul_right _ (by omega));rw [J6];split
  ·simp only [List.length_singleton];exact Nat.pow_pos (by omega)
  ·refine WA (I5 _ _ (hr _) _ _) ?_;rw [Nat.pow_succ,Nat.mul_comm (64 ^ f) 64,show 64*64 ^ f=8*(8*64 ^ f) by rw [<- Nat.mul_assoc]];exact Nat.mul_le_mul_right _ (by omega)

end U
namespace U
theorem Tk (m i:Nat) (hi:i<=60):shr .i64 (m:Int) (i:Int)=((m / 2 ^ i:Nat):Int):=by
 unfold shr;rw [Rr,show min i (IntKind.i64.bits)=i by simp only [IntKind.bits];omega]
 norm_cast
def Low (s lo:Nat):Prop:=∀ b,b<lo->s / 2 ^ b % 2=0
theorem Ow (s b:Nat):s / 2 ^ b % 2=1↔s.testBit b=true:=by
 rw [Nat.testBit_eq_decide_div_mod_eq,Wq]
theorem Q6 {s n:Nat} (h:s<2 ^ n) (hl:Low s n):s=0:=by
 apply Nat.eq_of_testBit_eq;intro b;rw [Nat.zero_testBit];rcases Nat.lt_or_ge b n with hb | hb
 ·have:=hl b hb;rw [Nat.testBit_eq_decide_div_mod_eq,decide_eq_false_iff_not];omega
 ·exact Nat.testBit_lt_two_pow (WK h (Nat.pow_le_pow_right (by omega) hb))
theorem SW {s i j k lo:Nat} (hi:i<9) (hj:j<9) (hk:k<9) (hl:Low s i) (hlo:lo<=i):Low (s&&& (511 ^^^ tri3 i j k)) (lo+1):=by
 intro b hb;obtain ⟨_,_,h3⟩:=Nd i hi j hj k hk;have h4:=(Ow _ _).mp h3
 have key:(s&&& (511 ^^^ tri3 i j k)).testBit b=false:=by
  rw [Nat.testBit_and,Nat.testBit_xor];rcases Nat.lt_or_ge b i with h | h
  ·have:=hl b h
   have:s.testBit b=false:=by
    rw [Nat.testBit_eq_decide_div_mod_eq,decide_eq_false_iff_not];omega
   rw [this];rfl
  ·have:b=i:=by omega
   subst this;rw [h4,show (511:Nat)=2 ^ 9-1 from rfl,Nat.testBit_two_pow_sub_one,Wo hi];simp
 have:=mt (Ow _ _).mp (by rw [key];simp);omega
theorem Vx (a:List Int) (x2:Int) (n s:Nat) (hn:n<=9) (hs:s<2 ^ n) (h0:s≠0):∀ (d k i:Nat),i+d=n->d+1<=k->Low s i->
  ∃ k',k<=k'+d+1/\Au.l0 k a (s:Int) x2 (i:Int)=Au.l1 k' a (s:Int) x2 (lowF s d i:Nat) 0 ((lowF s d i+1:Nat):Int)/\lowF s d i<n/\Low s (lowF s d i)/\i<=lowF s d i/\s / 2 ^ lowF s d i % 2=1:=by
 have h512:s<512:=WK hs (Nat.pow_le_pow_right (by omega) hn:2 ^ n<=2 ^ 9);intro d
 induction d with
 | zero=>
  intro k i hi hk hl;rw [show i=n by omega] at hl
  exact absurd (Q6 hs hl) h0
 | succ d ih=>
  intro k i hi hk hl
  obtain ⟨q,rfl⟩:∃ q,k=q+1:=⟨k-1,by omega⟩
  have hq:s / 2 ^ i<4611686018427387904:=Nat.lt_of_le_of_lt (Nat.div_le_self _ _) (by omega);have hw:=At (n:=i) (by omega);rw [Au.l0,if_pos (by omega),Tk s i (by omega),G9 _ hq,hw,lowF];by_cases hb:s / 2 ^ i % 2=0
  ·rw [if_pos (show ((s / 2 ^ i % 2:Nat):Int)=0 by omega),if_pos hb]
   obtain ⟨k',g1,g2,g3,g4,g5,g6⟩:=ih q (i+1) (by omega) (by omega) (by
    intro b hb2;rcases Nat.lt_or_ge b i with h | h
    ·exact hl b h
    ·rw [show b=i by omega]
     exact hb)
   exact ⟨k',by omega,g2,g3,g4,by omega,g6⟩
  ·rw [if_neg hb,if_neg (by omega)];exact ⟨q,by omega,rfl,by omega,hl,Wn _,by omega⟩
theorem K4 (a:List Int) (x2:Int) (f:Nat->List (List (List Nat))) (c s:Nat):((List.range' s (c+1)).flatMap f).countP (DA a x2)=(f s).countP (DA a x2)+((List.range' (s+1) c).flatMap f).countP (DA a x2):=by
 rw [Wu,WD,List.countP_append]
theorem Vz (a:List Int) (ha:∀ x∈a,1<=x/\x<=60) (x2:Int) (f s i j:Nat) (hn:a.length<=9) (hs:s<512) (hij:i<j) (hj:j<a.length) (q:Nat)
  (IH:∀ k,k<a.length->∀ p,q<=p->Au.f p a ((s&&& (511 ^^^ tri3 i j k):Nat):Int) x2=some (((enumT a.length f (s&&& (511 ^^^ tri3 i j k))).countP (DA a x2):Nat):Int)) :
  ∀ (d k:Nat) (c:Nat),k+d=a.length->c+((List.range' k d).flatMap (brT a.length f s i j)).countP (DA a x2)<4611686018427387904->
  Au.l2 (q+d+1) a (s:Int) x2 (i:Int) (c:Int) (j:Int) (k:Int)=Au.l1 q a (s:Int) x2 (i:Int) ((c+((List.range' k d).flatMap (brT a.length f s i j)).countP (DA a x2):Nat):Int) ((j+1:Nat):Int):=by
 have hin:∀ t:Nat,t<a.length->1<=rd a (t:Int)/\rd a (t:Int)<=60:=λt ht=>by
  rw [B9 ht];exact ha _ (Wk ht)
 intro d
 induction d with
 | zero=>
  intro k c hk hc;have hw:=At (n:=j) (by omega);rw [Au.l2,if_neg (by omega),hw]
  rfl
 | succ d ih=>
  intro k c hk hc;have hw:=At (n:=k) (by omega);rw [K4] at hc ⊢;have hi1:=hin i (by omega);have hj1:=hin j hj;have hk1:=hin k (by omega);obtain ⟨t1,t2,t3⟩:=Nd i (by omega) j (by omega) k (by omega);have ihn:=ih (k+1);rw [show q+(d+1)+1=(q+d+1)+1 by omega,Au.l2,if_pos (by omega),if_pos (by omega),if_pos (by omega),if_pos (by omega),t1,Sf s _ (by omega) (by omega),hw];generalize hX:((List.range' (k+1) d).flatMap (brT a.length f s i j)).countP (DA a x2)=X at hc ihn ⊢
  have hskip:(brT a.length f s i j k).countP (DA a x2)=0->Au.l2 (q+d+1) a (s:Int) x2 (i:Int) (c:Int) (j:Int) ((k+1:Nat):Int)=Au.l1 q a (s:Int) x2 (i:Int) ((c+((brT a.length f s i j k).countP (DA a x2)+X):Nat):Int) ((j+1:Nat):Int):=by
   intro h;rw [h] at hc ⊢;rw [ihn c (by omega) (by omega),Nat.zero_add]
  by_cases hb:s&&& tri3 i j k=tri3 i j k
  ·rw [if_pos (by rw [hb]),if_pos (by omega),if_pos (by omega),F8 _ _ _ hi1 hj1 hk1];simp only [AI]
   have hbr:(brT a.length f s i j k).countP (DA a x2)=if sat a x2 [i,j,k]=true then (enumT a.length f (s&&& (511 ^^^ tri3 i j k))).countP (DA a x2) else 0:=by
    unfold brT;rw [if_pos hb,JJ]
   have hst:sat a x2 [i,j,k]=(tri (rd a (i:Int)) (rd a (j:Int)) (rd a (k:Int))&&(decide (x2=0)||decide (rd a (i:Int)+rd a (j:Int)+rd a (k:Int)=x2))):=by
    unfold sat;simp only [Wz,List.map_nil,List.sum_cons,List.sum_nil,three];rw [show rd a (i:Int)+(rd a (j:Int)+(rd a (k:Int)+0))=rd a (i:Int)+rd a (j:Int)+rd a (k:Int) by omega]
   have htake:sat a x2 [i,j,k]=true->((Au.f (q+d+1) a (Go.bits .andNot .i64 (s:Int) ((tri3 i j k:Nat):Int)) x2).bind λt117=>(Au.l2 (q+d+1) a (s:Int) x2 (i:Int) (wrap64 ((c:Int)+t117)) (j:Int) ((k+1:Nat):Int)))=Au.l1 q a (s:Int) x2 (i:Int) ((c+((brT a.length f s i j k).countP (DA a x2)+X):Nat):Int) ((j+1:Nat):Int):=by
    intro h;rw [hbr,if_pos h] at hc ⊢;rw [Ns s _ hs t2,IH k (by omega) (q+d+1) (by omega)];simp only [AI];generalize (enumT a.length f (s&&& (511 ^^^ tri3 i j k))).countP (DA a x2)=Y at hc ⊢;rw [show wrap64 ((c:Int)+(Y:Int))=((c+Y:Nat):Int) by unfold wrap64;omega,ihn (c+Y) (by omega) (by omega),Nat.add_assoc]
   cases htr:tri (rd a (i:Int)) (rd a (j:Int)) (rd a (k:Int)) with
   | true=>
    rw [htr,Bool.true_and] at hst;rw [if_pos rfl];by_cases hx:x2=0
    ·rw [if_pos hx];rw [Wo hx,Bool.true_or] at hst;exact htake hst
    ·rw [if_neg hx,show wrap64 (wrap64 (rd a (i:Int)+rd a (j:Int))+rd a (k:Int))=rd a (i:Int)+rd a (j:Int)+rd a (k:Int) by unfold wrap64;omega];rw [Wp hx,Bool.false_or] at hst;by_cases hy:rd a (i:Int)+rd a (j:Int)+rd a (k:Int)=x2
     ·rw [if_pos hy];rw [Wo hy] at hst;exact htake hst
     ·rw [if_neg hy];rw [Wp hy] at hst
      exact hskip (by rw [hbr,hst,if_neg (by decide)])
   | false=>
    rw [htr,Bool.false_and] at hst;rw [if_neg (by decide)];exact hskip (by rw [hbr,hst,if_neg (by decide)])
  ·rw [if_neg (by omega)];exact hskip (by unfold brT;rw [if_neg hb];rfl)
theorem Um {Q d q:Nat} (h9:d<=9) (h:Q+20*(d+1)+20<=q+d+1+1):Q+20*d+20<=q:=by omega
theorem Uo {Q d k:Nat} (h:Q+20*(d+1)+20<=k):k=k-d-2+d+1+1:=by omega
theorem Up {Q d q p:Nat} (h9:d<=9) (h:Q+20*(d+1)+20<=q+d+1+1) (hp:q<=p):Q<=p:=by omega
theorem Uq {c r x B:Nat} (h:c+(r+x)<B):c+r<B:=by omega
theorem Un {c r x B:Nat} (h:c+(r+x)<B):c+r+x<B:=by omega
theorem Vy (a:List Int) (ha:∀ x∈a,1<=x/\x<=60) (x2:Int) (f s i:Nat) (hn:a.length<=9) (hs:s<512) (Q:Nat)
  (IH:∀ j k,j<a.length->k<a.length->∀ p,Q<=p->Au.f p a ((s&&& (511 ^^^ tri3 i j k):Nat):Int) x2=some (((enumT a.length f (s&&& (511 ^^^ tri3 i j k))).countP (DA a x2):Nat):Int)) :
  ∀ (d j k:Nat) (c:Nat),j+d=a.length->i<j->Q+20*d+20<=k->c+((List.range' j d).flatMap (rowT a.length f s i)).countP (DA a x2)<4611686018427387904->
  Au.l1 k a (s:Int) x2 (i:Int) (c:Int) (j:Int)=some ((c+((List.range' j d).flatMap (rowT a.length f s i)).countP (DA a x2):Nat):Int):=by
 intro d
 induction d with
 | zero=>
  intro j k c hj hi hk hc
  obtain ⟨q,rfl⟩:∃ q,k=q+1:=⟨k-1,by omega⟩
  rw [Au.l1,if_neg (by omega)]
  rfl
 | succ d ih=>
  intro j k c hj hi hk hc;have e1:j+1+d=a.length:=by omega
  have e2:i<j+1:=by omega
  have e3:d<=9:=by omega
  have e4:j<a.length:=by omega
  have e5:(j:Int)<(a.length:Int):=by omega
  have e6:a.length-(j+1)=d:=by omega
  have hw:=At (n:=j) (by omega)
  obtain ⟨q,rfl⟩:∃ q,k=q+d+1+1:=⟨k-d-2,Uo hk⟩
  rw [K4] at hc ⊢
  have hrow:((List.range' (j+1) d).flatMap (brT a.length f s i j)).countP (DA a x2)=(rowT a.length f s i j).countP (DA a x2):=by
   unfold rowT;rw [e6]
  have g:=Vz a ha x2 f s i j hn hs hi e4 q (λk' hk' p hp=>IH j k' e4 hk' p (Up e3 hk hp)) d (j+1) c e1 (by rw [hrow];exact Uq hc);rw [Au.l1,if_pos e5,hw,g,hrow,ih (j+1) q _ e1 e2 (Um e3 hk) (Un hc),Nat.add_assoc]
theorem pow64 {f:Nat} (h:f<=10):64 ^ f<4611686018427387904:=by
 have h1:64 ^ f<=64 ^ 10:=Nat.pow_le_pow_right (Nat.succ_pos 63) h;have h2:(64:Nat) ^ 10=1152921504606846976:=by simp
 rw [h2] at h1;exact Nat.lt_of_le_of_lt h1 (by simp)
theorem Ko (a:List Int) (ha:∀ x∈a,1<=x/\x<=60) (hn:a.length<=9) (x2:Int):∀ (f lo s:Nat),lo+f=a.length+1->lo<=a.length->s<2 ^ a.length->Low s lo->∀ k,300*f<=k->
  Au.f k a (s:Int) x2=some (((enumT a.length f s).countP (DA a x2):Nat):Int)
 | 0,lo,s,hf,hlo0,hs,hl,k,hk=>by omega
 | f+1,lo,s,hf,hlo0,hs,hl,k,hk=>by
  have h512:s<512:=WK hs (Nat.pow_le_pow_right (by omega) hn:2 ^ a.length<=2 ^ 9)
  obtain ⟨q,rfl⟩:∃ q,k=q+1:=⟨k-1,by omega⟩
  have hcnt:=List.countP_le_length (p:=DA a x2) (l:=enumT a.length (f+1) s);have hlen:=K7 a.length hn (f+1) s;have hp:=pow64 (f:=f+1) (by omega);rw [Au.f];rw [J6] at hcnt hlen ⊢;by_cases h0:s=0
  ·subst h0;rw [if_pos (by omega),if_pos rfl];rfl
  ·rw [if_neg h0] at hcnt hlen;rw [if_neg (by omega),if_neg h0];obtain ⟨k',g1,g2,g3,g4,g5,g6⟩:=Vx a x2 a.length s hn hs h0 a.length q 0 (by omega) (by omega) (λb hb=>by omega)
   have hlo:lo<=lowF s a.length 0:=by
    rcases Nat.lt_or_ge (lowF s a.length 0) lo with h | h
    ·have:=hl _ h;omega
    ·exact h
   have IH:∀ j k,j<a.length->k<a.length->∀ p,300*f<=p->Au.f p a ((s&&& (511 ^^^ tri3 (lowF s a.length 0) j k):Nat):Int) x2=some (((enumT a.length f (s&&& (511 ^^^ tri3 (lowF s a.length 0) j k))).countP (DA a x2):Nat):Int):=λj k hj hk p hp=>
    Ko a ha hn x2 f (lo+1) _ (by omega) (by omega) (Nat.lt_of_le_of_lt Nat.and_le_left hs) (SW (by omega) (by omega) (by omega) g4 hlo) p hp
   generalize lowF s a.length 0=i at *;have g:=Vy a ha x2 f s i hn h512 (300*f) IH (a.length-(i+1)) (i+1) k' 0 (by omega) (by omega) (by omega) (by omega);rw [Nat.zero_add] at g;rw [show ((0:Nat):Int)=0 from rfl] at g2 g;rw [g2,g]

end U
namespace U
theorem SM (xs:List Int) (v:Int) (hl:xs.length<=1000):∀ (d k i:Nat),i+d=xs.length->d+1<=k->∃ r,Ao.l0 k xs v (xs.length:Int) (i:Int)=some r/\(r>=0↔v∈xs.drop i):=by
 intro d
 induction d with
 | zero=>
  intro k i hi hk
  obtain ⟨m,rfl⟩:∃ m,k=m+1:=⟨k-1,by omega⟩
  rw [Ao.l0,if_neg (by omega),Wm (by omega)]
  exact ⟨-1,rfl,by simp⟩
 | succ d ih=>
  intro k i hi hk
  obtain ⟨m,rfl⟩:∃ m,k=m+1:=⟨k-1,by omega⟩
  have hil:i<xs.length:=by omega
  rw [Ao.l0,if_pos (by omega),if_pos (by omega),if_pos (by omega),B9 hil,At (by omega),Wl hil];by_cases h:v=xs[i]
  ·rw [if_pos h];exact ⟨(i:Int),rfl,⟨λ_=>by rw [h];exact TO,λ_=>by omega⟩⟩
  ·rw [if_neg h];obtain ⟨r,h1,h2⟩:=ih m (i+1) (by omega) (by omega);refine ⟨r,h1,h2.trans ?_⟩;rw [Wy];exact ⟨.inr,λq=>q.resolve_left h⟩
theorem J1 (xs:List Int) (hl:xs.length<=1000) (k:Nat) (hk:xs.length+1<=k):AF.f k xs (-1)=some (!noNeg xs):=by
 obtain ⟨r,h1,h2⟩:=SM xs (-1) hl xs.length k 0 (by omega) hk;unfold AF.f Ao.f;rw [show ((0:Nat):Int)=0 from rfl] at h1;rw [WF] at h2;rw [h1];simp only [AI];congr 1;unfold noNeg;by_cases h:(-1:Int)∈xs
 ·rw [Wo (h2.mpr h),Wp (λq=>q h)];rfl
 ·rw [Wp (λq=>h (h2.mp q)),Wo h];rfl
def waysN (a:List Int) (x2:Int):Nat:=(enumT a.length (a.length+1) (2 ^ a.length-1)).countP (DA a x2)
theorem Oq (a:List Int) (h9:a.length<=9) (x2:Int):waysN a x2<=280:=
 WA List.countP_le_length (NG a.length (by omega))
theorem QU (a x:List Int) (m:Nat) (h:rg x 0=some m):good a x=DA a 0 (JP x ((rg x 0).getD 0)):=by
 unfold good DA;rw [h];simp only [Option.getD_some];rw [LO];congr 1;funext c;simp [sat]
theorem MD:∀ (d:Nat) (l:List Int) (m:Nat),rg l 0=some m->∀ x∈enumE d l m,∃ m',rg x 0=some m'
 | 0,l,m,h,x,hx=>by
  rw [enumE,Wx] at hx;subst hx
  exact ⟨m,h⟩
 | d+1,l,m,h,x,hx=>by
  rw [enumE,List.mem_flatMap] at hx;obtain ⟨t,ht,hx⟩:=hx;rw [List.mem_range'_1] at ht;by_cases q1:(places l (t:Int)).length=3
  ·rw [if_pos q1] at hx;cases hx
  ·rw [if_neg q1] at hx;by_cases q2:3*(if t=m then m+1 else m)>l.length+1+d
   ·rw [if_pos q2] at hx;cases hx
   ·rw [if_neg q2] at hx;refine MD d _ _ ?_ x hx;rw [N6,h];simp only [AI];rw [rg,if_pos (by omega),rg];congr 1;split<;>split<;>omega
theorem Oo (a:List Int) (h9:a.length<=9):(DM a).countP noNeg=waysN a 0:=by
 rw [List.countP_eq_length_filter];unfold DM;rw [MF a a.length [] 0 rfl (by simp),<- List.countP_eq_length_filter];unfold waysN;rw [<- (List.isPerm_iff.mp (Ph a.length (by omega))).countP_eq,List.countP_map];apply List.countP_congr;intro x hx;obtain ⟨m,hm⟩:=MD _ _ _ rfl x hx;rw [QU a x m hm];rfl
theorem PN {l:List Int} (hr:Ag l):wrap64 (shl .i64 1 (l.length:Int)-1)=((2 ^ l.length-1:Nat):Int)/\0<2 ^ l.length/\2 ^ l.length<=512:=by
 have h:∀ n:Nat,n<10->wrap64 (shl .i64 1 (n:Int)-1)=((2 ^ n-1:Nat):Int)/\0<2 ^ n/\2 ^ n<=512:=by decide +kernel
 exact h _ (by have:=hr.2.2;omega)
theorem N9 (a:List Int) (hr:Ag a) (x2:Int) (k:Nat) (hk:3000<=k):Au.f k a (wrap64 (shl .i64 1 (a.length:Int)-1)) x2=some ((waysN a x2:Nat):Int):=by
 have h9:=hr.2.2;obtain ⟨e,e1,e2⟩:=PN hr;rw [e];exact Ko a hr.1 h9 x2 (a.length+1) 0 _ (by omega) (by omega) (by omega) (λb hb=>by omega) k (by omega)

end U
namespace U
theorem Jq (N:Nat):∀ (ls:List (List Int)) (s:Nat),s+ls.length<N->N<=4611686018427387904->ls.foldl (λ(s:Int) x=>if noNeg x=true then wrap64 (s+1) else s) (s:Int)=((s+ls.countP noNeg:Nat):Int)
 | [],s,_,_=>by simp
 | x::ls,s,h,hN=>by
  rw [It] at h;rw [Wt,List.countP_cons];by_cases hx:noNeg x=true
  ·rw [if_pos hx,if_pos hx,At (by omega),Jq N ls (s+1) (by omega) hN];congr 1;omega
  ·rw [if_neg hx,if_neg hx,Jq N ls s (by omega) hN];rfl
def Il (a:List Int):Int×Bool:=if AM a then ((waysN a 0:Int),true) else (0,false)
theorem P3 (l:List Int) (hl:l.length<=1048576):∃ K,∀ k,K<=k->AY.f k l=some (Il l):=by
 by_cases hb:AM l
 ·obtain ⟨K,h⟩:=GZ l hb.1 (λ(s:Int) x=>if noNeg x=true then wrap64 (s+1) else s);have h9:=hb.1.2.2;refine ⟨K+l.length+100,λk hk=>?_⟩;unfold AY.f Il;rw [DZ l hl k (by omega),Wo hb,if_pos hb];simp only [AI];rw [if_pos trivial,h k (by omega) (AY.step k) 0 (λs xs hx=>?_)]
  ·have hlen:(DM l).length<=11 ^ l.length:=FT l l.length [] 0 (by omega);have hp:=pow11 h9;have:=Jq 4000000000 (DM l) 0 (by omega) (by omega);rw [Nat.zero_add,Oo l h9] at this;rw [show (0:Int)=((0:Nat):Int) from rfl,this];rfl
  ·have hin:=ES h9 hx;unfold AY.step;rw [J1 xs (by omega) k (by omega)];simp only [AI];cases noNeg xs<;>rfl
 ·refine ⟨l.length+100,λk hk=>?_⟩;unfold AY.f Il;rw [DZ l hl k (by omega),Wp hb,if_neg hb];simp only [AI];rw [if_neg (by decide)]

end U
namespace U
theorem Ru (m i:Nat) (hm:m<1024) (hi:i<=60):shr .i64 (m:Int) (i:Int)=((m / 2 ^ i:Nat):Int):=by
 unfold shr;rw [Rr,show min i (IntKind.i64.bits)=i by simp only [IntKind.bits];omega]
 norm_cast
theorem Ln {l:List Int} {i m:Nat} (h:i<l.length):selN (l.drop i) (m / 2 ^ i)=((m / 2 ^ i % 2:Nat):Int)*rd l (i:Int)+selN (l.drop (i+1)) (m / 2 ^ (i+1)):=by
 rw [Wl h,selN,B9 h,Nat.pow_succ,Nat.div_div_eq_div_mul]
theorem RD {l:List Int} (hr:Ag l) {i:Nat} (h:i<l.length):1<=rd l (i:Int)/\rd l (i:Int)<=60:=by
 rw [B9 h];exact hr.1 _ (Wk h)
theorem LJ (q:Nat) (x:Int):(((q % 2:Nat):Int))*x=if q % 2=1 then x else 0:=by
 rcases Nat.mod_two_eq_zero_or_one q with h | h<;>rw [h]<;>simp
theorem Pr (l:List Int) (hr:Ag l) (c:Int) (m:Nat) (hm:m<1024) (K:Nat):∀ (d i:Nat) (s:Int),i+d=l.length->0<=s->s<=60*i->
  Bw.l1 (K+d+1) l c (m:Int) s l (l.length:Int) (i:Int)=Bw.l1 (K+1) l c (m:Int) (s+selN (l.drop i) (m / 2 ^ i)) l (l.length:Int) (l.length:Int):=by
 have hn:=hr.2.2;intro d
 induction d with
 | zero=>
  intro i s hi h1 h2
  rw [show i=l.length by omega,List.drop_length,selN,Int.add_zero]
 | succ d ih=>
  intro i s hi h1 h2;have hx:=RD hr (show i<l.length by omega);have hq:m / 2 ^ i<4611686018427387904:=Nat.lt_of_le_of_lt (Nat.div_le_self _ _) (by omega);rw [show K+(d+1)+1=(K+d+1)+1 by omega,Bw.l1,if_pos (by omega),if_pos (by omega),if_pos (by omega),Ru m i hm (by omega),G9 _ hq,Ln (by omega),Int.mul_comm (rd l (i:Int)),LJ,At (by omega)];generalize rd l (i:Int)=x at hx;by_cases hb:m / 2 ^ i % 2=1
  ·rw [if_pos hb,show wrap64 (s+wrap64 x)=s+x by unfold wrap64;omega,ih (i+1) _ (by omega) (by omega) (by omega),Int.add_assoc]
  ·rw [if_neg hb,show wrap64 (s+wrap64 0)=s by unfold wrap64;omega,ih (i+1) _ (by omega) (by omega) (by omega),Int.zero_add]
theorem PW (l:List Int) (hr:Ag l) (c:Int) (m:Nat) (hm:m<1024) (K:Nat):∀ (d i:Nat) (s:Int),i+d=l.length->0<=s->s<=60*i->
  Bs.l1 (K+d+1) l c (m:Int) s (i:Int)=Bs.l1 (K+1) l c (m:Int) (s+selN (l.drop i) (m / 2 ^ i)) (l.length:Int):=by
 have hn:=hr.2.2;intro d
 induction d with
 | zero=>
  intro i s hi h1 h2
  rw [show i=l.length by omega,List.drop_length,selN,Int.add_zero]
 | succ d ih=>
  intro i s hi h1 h2;have hx:=RD hr (show i<l.length by omega);have hq:m / 2 ^ i<4611686018427387904:=Nat.lt_of_le_of_lt (Nat.div_le_self _ _) (by omega);rw [show K+(d+1)+1=(K+d+1)+1 by omega,Bs.l1,if_pos (by omega),if_pos (by omega),Ru m i hm (by omega),G9 _ hq,Ln (by omega),LJ,At (by omega)];generalize rd l (i:Int)=x at hx;by_cases hb:m / 2 ^ i % 2=1
  ·rw [if_pos hb,if_pos (by omega),show wrap64 (s+x)=s+x by unfold wrap64;omega,ih (i+1) _ (by omega) (by omega) (by omega),Int.add_assoc]
  ·rw [if_neg hb,if_neg (by omega),ih (i+1) _ (by omega) (by omega) (by omega),Int.zero_add]
theorem L9:∀ (l:List Int) (m:Nat),(∀ x∈l,1<=x/\x<=60)->0<=selN l m/\selN l m<=60*l.length
 | [],m,_=>by simp [selN]
 | x::l,m,h=>by
  have:=L9 l (m / 2) (λy hy=>h y (S2 _ hy));have:=h x TO;rw [selN,LJ,It];split<;>omega
def oddN (l:List Int) (N:Nat):Nat:=cntR N λi=>decide (2*selN l (2*i+1)=l.sum)
theorem Lg (l:List Int) (N:Nat):oddN l (N+1)=oddN l N+if 2*selN l (2*N+1)=l.sum then 1 else 0:=by
 simp only [oddN,cntR,Wq]
theorem MG {l:List Int} (hr:Ag l):2 ^ l.length=2*2 ^ (l.length-1)/\2 ^ (l.length-1)<=256:=by
 have h1:=hr.2.1
 have e:2 ^ l.length=2*2 ^ (l.length-1):=by
  rw [show 2 ^ l.length=2 ^ (l.length-1+1) by congr 1;omega,Nat.pow_succ,Nat.mul_comm]
 have:=pow9 hr;exact ⟨e,by omega⟩
theorem Pq (l:List Int) (hr:Ag l) (N:Nat) (hN:N<=256) (h2:2 ^ l.length=2*N):∀ (d k i:Nat),i+d=N->20*d+30<=k->
  Bw.l0 k l ((oddN l i:Nat):Int) ((2*i+1:Nat):Int)=some (((oddN l N:Nat):Int),true):=by
 have hn:=hr.2.2;intro d
 induction d with
 | zero=>
  intro k i hi hk
  obtain ⟨j,rfl⟩:∃ j,k=j+1:=⟨k-1,by omega⟩
  rw [Bw.l0,Fm hr,h2,if_neg (by omega),show i=N by omega]
 | succ d ih=>
  intro k i hi hk
  obtain ⟨j,rfl⟩:∃ j,k=j+l.length+2:=⟨k-l.length-2,by omega⟩
  have hs:=L9 l (2*i+1) hr.1;have hc:=Gp (λi=>decide (2*selN l (2*i+1)=l.sum)) i;have e1:=Pr l hr ((oddN l i:Nat):Int) (2*i+1) (by omega) j l.length 0 0 (by omega) (by omega) (by omega);rw [Int.zero_add,WF,Nat.pow_zero,Nat.div_one] at e1;have e1:Bw.l1 (j+l.length+1) l ((oddN l i:Nat):Int) ((2*i+1:Nat):Int) 0 l (l.length:Int) 0=_:=e1;have e2:=Lg l i;have hc:oddN l i<=i:=hc;rw [Bw.l0,Fm hr,h2,if_pos (by omega),e1,Bw.l1,if_neg (by omega),Gj l (by omega) hr.1 j (by omega)];simp only [AI];rw [show wrap64 (2*selN l (2*i+1))=2*selN l (2*i+1) by unfold wrap64;omega,show wrap64 (((2*i+1:Nat):Int)+2)=((2*(i+1)+1:Nat):Int) by unfold wrap64;omega];by_cases h:2*selN l (2*i+1)=l.sum
  ·rw [if_pos h] at e2 ⊢;rw [show wrap64 ((((oddN l i:Nat):Int):Int)+1)=((oddN l (i+1):Nat):Int) by unfold wrap64;omega];exact ih j (i+1) (by omega) (by omega)
  ·rw [if_neg h] at e2 ⊢;rw [show oddN l i=oddN l (i+1) by omega];exact ih j (i+1) (by omega) (by omega)
theorem PV (l:List Int) (hr:Ag l) (N:Nat) (hN:N<=256) (h2:2 ^ l.length=2*N):∀ (d k i:Nat),i+d=N->20*d+30<=k->
  Bs.l0 k l ((oddN l i:Nat):Int) ((2*i+1:Nat):Int)=some (((oddN l N:Nat):Int),true):=by
 have hn:=hr.2.2;intro d
 induction d with
 | zero=>
  intro k i hi hk
  obtain ⟨j,rfl⟩:∃ j,k=j+1:=⟨k-1,by omega⟩
  rw [Bs.l0,Fm hr,h2,if_neg (by omega),show i=N by omega]
 | succ d ih=>
  intro k i hi hk
  obtain ⟨j,rfl⟩:∃ j,k=j+l.length+2:=⟨k-l.length-2,by omega⟩
  have hs:=L9 l (2*i+1) hr.1;have hc:=Gp (λi=>decide (2*selN l (2*i+1)=l.sum)) i;have e1:=PW l hr ((oddN l i:Nat):Int) (2*i+1) (by omega) j l.length 0 0 (by omega) (by omega) (by omega);rw [Int.zero_add,WF,Nat.pow_zero,Nat.div_one] at e1;have e1:Bs.l1 (j+l.length+1) l ((oddN l i:Nat):Int) ((2*i+1:Nat):Int) 0 0=_:=e1;have e2:=Lg l i;have hc:oddN l i<=i:=hc;rw [Bs.l0,Fm hr,h2,if_pos (by omega),e1,Bs.l1,if_neg (by omega),Gz l (by omega) hr.1 j (by omega)];simp only [AI];rw [show wrap64 (2*selN l (2*i+1))=2*selN l (2*i+1) by unfold wrap64;omega,show wrap64 (((2*i+1:Nat):Int)+2)=((2*(i+1)+1:Nat):Int) by unfold wrap64;omega];by_cases h:2*selN l (2*i+1)=l.sum
  ·rw [if_pos h] at e2 ⊢;rw [show wrap64 ((((oddN l i:Nat):Int):Int)+1)=((oddN l (i+1):Nat):Int) by unfold wrap64;omega];exact ih j (i+1) (by omega) (by omega)
  ·rw [if_neg h] at e2 ⊢;rw [show oddN l i=oddN l (i+1) by omega];exact ih j (i+1) (by omega) (by omega)
def twoOf (l:List Int):Int×Bool:=if AM l then (((oddN l (2 ^ (l.length-1)):Nat):Int),true) else (0,false)
theorem NQ (l:List Int) (hl:l.length<=1048576) (k:Nat) (hk:l.length+6000<=k):Bw.f k l=some (twoOf l):=by
 unfold Bw.f twoOf;rw [DZ l hl k (by omega)];simp only [AI,Wq];by_cases hb:AM l
 ·obtain ⟨e,h⟩:=MG hb.1;rw [if_pos hb,if_pos hb];exact Pq l hb.1 _ h e (2 ^ (l.length-1)) k 0 (by omega) (by omega)
 ·rw [if_neg hb,if_neg hb]
theorem Oc (l:List Int) (hl:l.length<=1048576) (k:Nat) (hk:l.length+6000<=k):Bs.f k l=some (twoOf l):=by
 unfold Bs.f twoOf;rw [Ew l hl k (by omega)];simp only [AI,Wq];by_cases hb:AM l
 ·obtain ⟨e,h⟩:=MG hb.1;rw [if_pos hb,if_pos hb];exact PV l hb.1 _ h e (2 ^ (l.length-1)) k 0 (by omega) (by omega)
 ·rw [if_neg hb,if_neg hb]
theorem RG {l:List Int} (hr:Ag l):2*oddN l (2 ^ (l.length-1))=sgn l 0:=by
 cases l with
 | nil=>exact absurd hr.2.1 (by simp)
 | cons x l=>exact PE x l

end U
end Go.Proofs.YtlgojeodceiglaaGreatDoor.PFnExactExecute
