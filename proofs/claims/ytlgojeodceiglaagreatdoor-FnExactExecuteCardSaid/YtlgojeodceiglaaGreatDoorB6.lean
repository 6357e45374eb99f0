/- Execute: a part of what is shown of the program's Execute and the reference's. -/
import Derived.Test.YtlgojeodceiglaaGreatDoorB5
import Derived.Test.YtlgojeodceiglaaGreatDoorAA
namespace Go.Proofs.YtlgojeodceiglaaGreatDoor.PFnExactExecute
open Go.RowKit Go.Proofs.YtlgojeodceiglaaGreatDoorW.PrintWords Go.Proofs.YtlgojeodceiglaaGreatDoorW.PrintLast Go.Proofs.YtlgojeodceiglaaGreatDoorW.PrintMore
attribute [local go_sem] WO WQ WS WT WM WN WP WR
set_option linter.unusedVariables false
set_option linter.unusedSimpArgs false
set_option maxRecDepth 100000
set_option maxHeartbeats 0
namespace U
theorem MK (c:UInt8) (r:List UInt8):Lib.indexByte (c::r) c=0:=by
 unfold Lib.indexByte;rw [if_pos (beq_self_eq_true c)]
theorem Kg (c:UInt8) (r:List UInt8):∀ x:List UInt8,(∀ b∈x,b≠c)->Lib.indexByte (x++c::r) c=(x.length:Int)
 | [],_=>MK c r
 | b::x,h=>by
  have ih:=Kg c r x (λd hd=>h d (S2 _ hd));rw [List.cons_append];unfold Lib.indexByte;rw [if_neg (by rw [beq_iff_eq];exact h b (TO ..)),ih,if_neg (by rw [beq_iff_eq];omega),It];omega
theorem Jw (c:UInt8):∀ x:List UInt8,(∀ b∈x,b≠c)->Lib.indexByte x c = -1
 | [],_=>rfl
 | b::x,h=>by
  unfold Lib.indexByte;rw [if_neg (by rw [beq_iff_eq];exact h b (TO ..)),Jw c x (λd hd=>h d (S2 _ hd))];rfl
theorem Qt (x r:List UInt8) (h:∀ b∈x,b≠32):BE.f (bytes (x++32::r))=(bytes x,bytes r,true):=by
 have hd:(bytes (x++32::r)).data.toList=x++32::r:=by simp [bytes]
 unfold BE.f;rw [hd,Kg 32 r x h,if_pos (by omega),Rr]
 have e1:(bytes (x++32::r)).extract 0 x.length=bytes x:=by
  rw [<- Eg ((bytes (x++32::r)).extract 0 x.length),Lib.extract_data,hd];simp
 have e2:(bytes (x++32::r)).extract (x.length+1) (bytes (x++32::r)).size=bytes r:=by
  rw [<- Eg ((bytes (x++32::r)).extract (x.length+1) _),Lib.extract_data,hd,A6];congr 1;rw [List.drop_append,Wm (by omega),show x.length+1-x.length=1 by omega];simp only [IN,It,List.drop_succ_cons,WF,Ws];exact List.take_of_length_le (by omega)
 rw [e1,e2]
theorem Qs (x:List UInt8) (h:∀ b∈x,b≠32):BE.f (bytes x)=(bytes x,⟨#[]⟩,false):=by
 have hd:(bytes x).data.toList=x:=by simp [bytes]
 unfold BE.f;rw [hd,Jw 32 x h,if_neg (by omega)]

end U
namespace U
def I9 (k:Nat) (l:List Int) (p:ByteArray):Option (ByteArray×List Int):=if (BE.f p).2.2=true then Aq.f k l (BE.f p).1 (BE.f p).2.1 else AO.f k l (BE.f p).1
def IW (l:List Int) (p:ByteArray) (t:ByteArray) (l':List Int):Prop:=Ag l'/\t.size<=1700/\Ev (λk=>I9 k l p) (t,l')/\Ev (λk=>BF.f k l p) (l',t++⟨#[10]⟩)
theorem toL (x:List UInt8):(bytes x).toList=x:=by rw [Lib.toList_data];rfl
theorem SA (x:List UInt8):(bytes x).extract 0 x.length=bytes x:=by
 rw [<- Eg ((bytes x).extract 0 x.length),Lib.extract_data];congr 1;simp [bytes]
theorem SB (x r:List UInt8):(bytes (x++32::r)).extract 0 x.length=bytes x:=by
 have hd:(bytes (x++32::r)).data.toList=x++32::r:=by simp [bytes]
 rw [<- Eg ((bytes (x++32::r)).extract 0 x.length),Lib.extract_data,hd];simp
theorem QC (x r:List UInt8):(bytes (x++32::r)).extract (x.length+1) (bytes (x++32::r)).size=bytes r:=by
 have hd:(bytes (x++32::r)).data.toList=x++32::r:=by simp [bytes]
 rw [<- Eg ((bytes (x++32::r)).extract (x.length+1) _),Lib.extract_data,hd,A6];congr 1;rw [List.drop_append,Wm (by omega),show x.length+1-x.length=1 by omega];simp only [IN,It,List.drop_succ_cons,WF,Ws];exact List.take_of_length_le (by omega)
theorem TL {x y:List UInt8} {i:Nat} (hx:∀ b∈x,b≠32) (hi:i<x.length):¬ bt (bytes (x++y)) (i:Int)=32:=by
 obtain ⟨b,h1,h2⟩:=Gd (s:=bytes (x++y)) (i:=i) (by rw [A6,IN];omega)
 have hb:b=x[i]:=by
  have e:(bytes (x++y)).data.toList.drop i=(x++y).drop i:=rfl;rw [e,List.drop_append_of_le_length (by omega),Wl hi,List.cons_append] at h1;exact (List.cons.inj h1).1.symm
 rw [h2];intro e;have:=hx _ (Wk hi);rw [<- hb] at this;exact this (UInt8.toNat_inj.mp (by have:(32:UInt8).toNat=32:=rfl;omega))
section
variable {l:List Int}
theorem sbare (x:List UInt8) (hx:∀ b∈x,b≠32) (hl:x.length<=600) {c:List Int×Bool×Bool} {v:List Int×ByteArray} (hc:Ev (λk=>Bu.f k l (bytes x) ⟨#[]⟩ true) c)
  (h:Ev (λk=>if c.2.1=true then (if c.2.2=true then some (c.1,(⟨#[111,107,10]⟩:ByteArray)) else some (l,⟨#[110,111,10]⟩)) else ((Ef.f k l (bytes x)).bind λs=>some (l,s))) v):Ev (λk=>BF.f k l (bytes x)) v:=by
 have hz:(bytes x).size=x.length:=A6 x
 have go:∀ (d i:Nat),i+d=x.length->Ev (λk=>BF.l0 k l (bytes x) (i:Int)) v:=by
  intro d
  induction d with
  | zero=>
   intro i hi;obtain rfl:i=x.length:=by omega
   refine .s ?_;simp only [BF.l0];refine .n (.s ?_);simp only [BF.j0];rw [Rr,SA,hz,Wo rfl]
   exact .t rfl (.o (.o (hc.b h)))
  | succ d ih=>
   intro i hi;have hb:=TL (y:=[]) hx (show i<x.length by omega);rw [List.append_nil] at hb;refine .s ?_;simp only [BF.l0];rw [At (n:=i) (by omega)];exact .o (.o (.f hb (ih (i+1) (by omega))))
 exact go x.length 0 (by omega)
theorem srest (x r:List UInt8) (hx:∀ b∈x,b≠32) (hl:(x++32::r).length<=600) {c:List Int×Bool×Bool} {v:List Int×ByteArray} (hc:Ev (λk=>Bu.f k l (bytes x) (bytes r) false) c)
  (h:Ev (λk=>if c.2.1=true then (if c.2.2=true then some (c.1,(⟨#[111,107,10]⟩:ByteArray)) else some (l,⟨#[110,111,10]⟩)) else ((Dc.f k l (bytes x) (bytes r)).bind λs=>some (l,s))) v):Ev (λk=>BF.f k l (bytes (x++32::r))) v:=by
 have hz:(bytes (x++32::r)).size=x.length+1+r.length:=by rw [A6,IN,It];omega
 have h6:x.length+1+r.length<=600:=by rw [IN,It] at hl;omega
 have go:∀ (d i:Nat),i+d=x.length->Ev (λk=>BF.l0 k l (bytes (x++32::r)) (i:Int)) v:=by
  intro d
  induction d with
  | zero=>
   intro i hi;obtain rfl:i=x.length:=by omega
   have hb:bt (bytes (x++32::r)) (x.length:Int)=32:=by
    obtain ⟨b,h1,h2⟩:=Gd (s:=bytes (x++32::r)) (i:=x.length) (by omega)
    have e:(bytes (x++32::r)).data.toList.drop x.length=32::r:=by
     show (x++32::r).drop x.length=_;rw [List.drop_left]
    rw [e] at h1;rw [h2,<- (List.cons.inj h1).1];rfl
   refine .s ?_;simp only [BF.l0];refine .o (.o (.t hb (.s ?_)));simp only [BF.j0];have hne:¬ ((x.length:Int)=((bytes (x++32::r)).size:Int)):=by omega
   rw [At (n:=x.length) (by omega),Rr,Rr,SB,QC,Wp hne]
   exact .f hne (.o (.o (.o (.o (hc.b h)))))
  | succ d ih=>
   intro i hi;refine .s ?_;simp only [BF.l0];rw [At (n:=i) (by omega)];exact .o (.o (.f (TL hx (by omega)) (ih (i+1) (by omega))))
 exact go x.length 0 (by omega)
theorem Km:Ev (λk=>Ay.f k ⟨#[]⟩) []:=Kp (s:=⟨#[]⟩) (by decide)
theorem Py (hr:Ag l) (x:List UInt8) (hx:∀ b∈x,b≠32) (hl:x.length<=600):∃ t l',IW l (bytes x) t l':=by
 have hi:∀ v,Ev (λk=>AO.f k l (bytes x)) v->Ev (λk=>I9 k l (bytes x)) v:=λv h=>by
  unfold I9;rw [Qs x hx];exact .f (by simp) h
 have hne:∀ y:List UInt8,¬ x=y->¬ bytes x=⟨y.toArray⟩:=λy h e=>h (by have:=WL ByteArray.toList e;rw [toL,show (⟨y.toArray⟩:ByteArray)=bytes y from rfl,toL] at this;exact this);by_cases h1:x=[115,111,114,116]
 ·subst h1;refine ⟨⟨#[111,107]⟩,sortL l,(JE hr).1,by decide,hi _ ?_,sbare _ hx hl (c:=(sortL l,true,true)) ?_ (.t rfl (.t rfl (.c rfl)))⟩
  ·unfold AO.f;exact .t rfl ((UG hr).b (.c rfl))
  ·unfold Bu.f;exact Km.b (.t rfl (.t (toL _) ((UH hr).b (.c rfl))))
 ·by_cases h2:x=[98,97,99,107]
  ·subst h2;refine ⟨⟨#[111,107]⟩,l.reverse,Ny hr,by decide,hi _ ?_,sbare _ hx hl (c:=(l.reverse,true,true)) ?_ (.t rfl (.t rfl (.c rfl)))⟩
   ·unfold AO.f;exact .f (by decide) (.t rfl ((T5 hr).b (.c rfl)))
   ·unfold Bu.f;exact Km.b (.t rfl (.f (by rw [toL];decide) (.t (toL _) ((T8 hr).b (.c rfl)))))
  ·obtain ⟨t,g1,g2,g3⟩:=Qm hr (bytes x) (by rw [toL];exact h1) (by rw [toL];exact h2);refine ⟨t,l,hr,g1,hi _ ?_,sbare _ hx hl (c:=(l,false,false)) ?_ (.f (by simp) (g3.b (.c rfl)))⟩
   ·unfold AO.f;exact .f (hne _ h1) (.f (hne _ h2) (g2.b (.c rfl)))
   ·unfold Bu.f;exact Km.b (.t rfl (.f (by rw [toL];exact h1) (.f (by rw [toL];exact h2) (.c rfl))))
theorem Jg {w r:ByteArray} {t:ByteArray} (h:Ev (λk=>Aq.ro k l w r) t):Ev (λk=>Aq.f k l w r) (t,l):=by
 obtain ⟨K,h⟩:=h;refine ⟨K,λk hk=>?_⟩;show Aq.f k l w r=_;have e:Aq.ro k l w r=some t:=h k hk;unfold Aq.f;rw [e]
theorem IJ {w r:ByteArray} {v:ByteArray×List Int} {L:List Int} (hi:Ev (λk=>Al.f k r) (L,true)) (h:∀ k,Al.f k r=some (L,true)->Aq.ro k l w r=none) (h2:Ev (λk=>Aq.chg k l w r) v):Ev (λk=>Aq.f k l w r) v:=by
 obtain ⟨K,hi⟩:=hi;obtain ⟨K2,h2⟩:=h2;refine ⟨max K K2,λk hk=>?_⟩;show Aq.f k l w r=_;unfold Aq.f;rw [h k (hi k (by omega))];exact h2 k (by omega)
theorem NP {L:List Int} (h:L.length<=1000):Ev (λk=>Am.f k L) (decide (Ag L)):=⟨_,EG L (by omega)⟩
theorem UJ {L:List Int} (h:L.length<=1000):Ev (λk=>Bj.f k L) (decide (Ag L)):=⟨_,Gx L (by omega)⟩
theorem srul {L:List Int} (h:L.length<=1000):Ev (λk=>(Dt.f k L).bind λs=>some (s.1,true,s.2)) (L,true,decide (Ag L)):=by
 unfold Dt.f;exact Ev.b (v:=(L,decide (Ag L))) (Ev.b (UJ h) (.c rfl)) (.c rfl)
theorem Re {s:List UInt8}:∀ x∈(D7 s).getD [],0<=x:=by
 have g:∀ (ps:List (List UInt8)) (xs:List Int),nums ps=some xs->∀ x∈xs,0<=x:=by
  intro ps
  induction ps with
  | nil=>intro xs h;cases h;intro x hx;cases hx
  | cons p ps ih=>
   intro xs h;obtain ⟨n,h0,h⟩:=By.1 h;obtain ⟨ns,h1,h⟩:=By.1 h;cases h;intro x hx;rcases Wy.mp hx with rfl | hx
   ·exact UQ h0
   ·exact ih ns h1 x hx
 unfold D7
 cases e:nums (CS 32 s) with
 | none=>intro x hx;cases hx
 | some xs=>rw [Option.getD_some];exact g _ _ e
theorem PD {s:List UInt8} {L:List Int} (h:D7 s=some L):0<L.length:=by
 unfold D7 at h;have hp:=Hj 32 s
 match e:CS 32 s,hp with
 | p::ps,_=>
  rw [e] at h;obtain ⟨n,h0,h⟩:=By.1 h;obtain ⟨ns,h1,h⟩:=By.1 h;cases h;simp
theorem Pz (hr:Ag l) (x r:List UInt8) (hx:∀ b∈x,b≠32) (hl:(x++32::r).length<=600):∃ t l',IW l (bytes (x++32::r)) t l':=by
 have h9:=hr.2;have h6:x.length+1+r.length<=600:=by rw [IN,It] at hl;omega
 have hrs:(bytes r).size<=900:=by rw [A6];omega
 have hd:(bytes r).data.toList=r:=rfl;have hLl:=Kl (bytes r);rw [hd,A6] at hLl
 have hi:∀ v,Ev (λk=>Aq.f k l (bytes x) (bytes r)) v->Ev (λk=>I9 k l (bytes (x++32::r))) v:=λv h=>by
  unfold I9;rw [Qt x r hx];exact .t rfl h
 have hs:Ev (λk=>Ay.f k (bytes r)) ((D7 r).getD []):=Kp (s:=bytes r) (by omega)
 have h0:∀ (t:ByteArray) (c:List Int),t.size<=1700->Ev (λk=>Aq.f k l (bytes x) (bytes r)) (t,l)->Ev (λk=>Bu.f k l (bytes x) (bytes r) false) (c,true,false)->t=⟨#[110,111]⟩->∃ t l',IW l (bytes (x++32::r)) t l':=λt c ht h1 h2 e=>
  ⟨t,l,hr,ht,hi _ h1,srest x r hx hl h2 (.t rfl (.f (by simp) (.c (by rw [e];rfl))))⟩
 have hok:∀ c,Ag c->Ev (λk=>Aq.f k l (bytes x) (bytes r)) ((⟨#[111,107]⟩:ByteArray),c)->Ev (λk=>Bu.f k l (bytes x) (bytes r) false) (c,true,true)->∃ t l',IW l (bytes (x++32::r)) t l':=λc hc h1 h2=>
  ⟨⟨#[111,107]⟩,c,hc,by decide,hi _ h1,srest x r hx hl h2 (.t rfl (.t rfl (.c rfl)))⟩
 by_cases h1:x=[115,101,116]
 ·subst h1
  have hsp:Ev (λk=>Bu.f k l (bytes [115,101,116]) (bytes r) false) ((D7 r).getD [],true,decide (Ag ((D7 r).getD []))):=by
   unfold Bu.f;exact hs.b (.f (by decide) (.t (toL _) (srul (L:=(D7 r).getD []) (by omega))))
  have hin:=ML (s:=bytes r) (by omega);rw [hd] at hin
  cases e:D7 r with
  | none=>
   rw [e] at hin hsp;refine h0 ⟨#[110,111]⟩ [] (by decide) (Jg ?_) (hsp.r (by decide)) rfl;unfold Aq.ro;rw [toL]
   repeat (refine Ev.f (by decide) ?_)
   exact .t rfl (hin.b (.f (by simp) (.c rfl)))
  | some L=>
   rw [e] at hin hsp;have hpos:=PD e;rw [e,Option.getD_some] at hLl;rw [Option.getD_some] at hsp
   have hn:∀ k,Al.f k (bytes r)=some (L,true)->Aq.ro k l (bytes [115,101,116]) (bytes r)=none:=λk hk=>by
    unfold Aq.ro;rw [toL,hk]
    repeat rw [if_neg (by decide)]
    rw [if_pos rfl,AI,if_pos rfl];split<;>rfl
   by_cases hru:Ag L
   ·rw [Wo hru] at hsp;refine hok L hru (IJ hin hn ?_) hsp;unfold Aq.chg;refine hin.b (.t ⟨rfl,hpos⟩ (.t rfl ((NP (L:=L) (by omega)).b (.c ?_))));rw [if_pos (by simpa using hru)]
   ·rw [Wp hru] at hsp;refine h0 ⟨#[110,111]⟩ L (by decide) (IJ hin hn ?_) hsp rfl;unfold Aq.chg;refine hin.b (.t ⟨rfl,hpos⟩ (.t rfl ((NP (L:=L) (by omega)).b (.c ?_))));rw [if_neg (by simpa using hru)]
 ·by_cases h2:x=[112,117,116]
  ·subst h2;rcases Fh (bytes r) hrs 1 (by omega) with ⟨L,hL,hl2,e,hin⟩ | ⟨hne,L,ok,hin,hno⟩
   ·rw [hd] at e;rw [e] at hs
    have hn:∀ k,Al.f k (bytes r)=some (L,true)->Aq.ro k l (bytes [112,117,116]) (bytes r)=none:=λk hk=>by
     unfold Aq.ro lkm;rw [toL,hk]
     repeat rw [if_neg (by decide)]
     rw [if_pos (by rw [A6];decide),if_neg (by decide),AI,if_pos rfl,if_pos (by show (L.length:Int)=_;rw [hL];decide),if_pos (by show (0:Int)<(L.length:Int);omega),if_pos rfl]
    have hsp:Ev (λk=>Bu.f k l (bytes [112,117,116]) (bytes r) false) (l++[rd L 0],true,decide (Ag (l++[rd L 0]))):=by
     unfold Bu.f;exact hs.b (.f (by decide) (.f (by rw [toL];decide) (.t (toL _) (.o (.o (.o (srul (L:=([]++l)++[rd L 0]) (by rw [Ws,IN];simp only [It,IS];omega))))))))
    have hch:∀ v,Ev (λ_=>some (if Ag (l++[rd L 0]) then ((⟨#[111,107]⟩:ByteArray),l++[rd L 0]) else ((⟨#[110,111]⟩:ByteArray),l))) v->Ev (λk=>Aq.chg k l (bytes [112,117,116]) (bytes r)) v:=λv h=>by
     unfold Aq.chg;refine hin.b (.t ⟨rfl,by show 0<L.length;omega⟩ (.f (by decide) (.t ⟨rfl,hL⟩ ((Gc (by omega) (by omega)).b ((NP (L:=l++[rd L 0]) (by rw [IN];simp only [It,IS];omega)).b ?_)))));simp only [Wq];exact h
    by_cases hru:Ag (l++[rd L 0])
    ·rw [Wo hru] at hsp;exact hok _ hru (IJ hin hn (hch _ (.c (by rw [if_pos hru])))) hsp
    ·rw [Wp hru] at hsp;exact h0 ⟨#[110,111]⟩ _ (by decide) (IJ hin hn (hch _ (.c (by rw [if_neg hru])))) hsp rfl
   ·rw [hd] at hne;refine h0 ⟨#[110,111]⟩ l (by decide) (Jg ?_) ?_ rfl
    ·unfold Aq.ro lkm;rw [toL]
     repeat (refine Ev.f (by decide) ?_)
     refine .t (by rw [A6];decide) (.f (by decide) (hin.b ?_));by_cases ho:ok=true
     ·exact .t ho (.f (λh=>hno ho (by have h2:(L.length:Int)=1:=h.trans (by decide);omega)) (.c rfl))
     ·exact .f ho (.c rfl)
    ·unfold Bu.f;exact hs.b (.f (by decide) (.f (by rw [toL];decide) (.t (toL _) (.n (.c rfl)))))
  ·by_cases h3:x=[100,114,111,112]
   ·subst h3;rcases Fh (bytes r) hrs 1 (by omega) with ⟨L,hL,hl2,e,hin⟩ | ⟨hne,L,ok,hin,hno⟩
    ·rw [hd] at e;rw [e] at hs
     have hp:0<=rd L 0:=by
      have hm:L[0]∈(D7 r).getD []:=by rw [e];exact Wk (by omega)
      have:=Re _ hm;rw [show (0:Int)=((0:Nat):Int) from rfl,B9 (show 0<L.length by omega)];exact this
     have hro:∀ t,Ev (λk=>if rd L 0>=(l.length:Int) then some (⟨#[110,111]⟩:ByteArray) else (if (l.length:Int)=1 then some (⟨#[110,111]⟩:ByteArray) else none)) t->Ev (λk=>Aq.ro k l (bytes [100,114,111,112]) (bytes r)) t:=λt h=>by
      unfold Aq.ro lkm;rw [toL]
      repeat (refine Ev.f (by decide) ?_)
      refine .t (by rw [A6];decide) (.f (by decide) (hin.b (.t rfl (.t (by show (L.length:Int)=_;rw [hL];decide) (.t (by show (0:Int)<(L.length:Int);omega) (.f (by decide) (.t rfl h)))))))
     by_cases hn:rd L 0>=(l.length:Int)
     ·refine h0 ⟨#[110,111]⟩ l (by decide) (Jg (hro _ (.t hn (.c rfl)))) ?_ rfl;unfold Bu.f;exact hs.b (.f (by decide) (.f (by rw [toL];decide) (.f (by rw [toL];decide) (.t (toL _) (.o (.o (.n (.c rfl))))))))
     ·have hw:wrap64 (rd L 0+1)=(((rd L 0).toNat+1:Nat):Int):=by unfold wrap64;omega
      have hdl:(l.take (rd L 0).toNat++l.drop ((rd L 0).toNat+1)).length=l.length-1:=by
       rw [IN,IT,No];omega
      have hsp:Ev (λk=>Bu.f k l (bytes [100,114,111,112]) (bytes r) false) (l.take (rd L 0).toNat++l.drop ((rd L 0).toNat+1),true,decide (Ag (l.take (rd L 0).toNat++l.drop ((rd L 0).toNat+1)))):=by
       unfold Bu.f;rw [toL];refine hs.b (.f (by decide) (.f (by decide) (.f (by decide) (.t rfl (.o (.o (.o (.o (.t hp (.o (.o (.o ?_))))))))))));rw [hw,Rr,Ws];exact srul (by omega)
      by_cases h11:l.length=1
      ·have hru:¬ Ag (l.take (rd L 0).toNat++l.drop ((rd L 0).toNat+1)):=λh=>by have:=h.2;omega
       rw [Wp hru] at hsp;exact h0 ⟨#[110,111]⟩ _ (by decide) (Jg (hro _ (.f hn (.o (.c rfl))))) hsp rfl
      ·have hru:Ag (l.take (rd L 0).toNat++l.drop ((rd L 0).toNat+1)):=⟨λy hy=>by
        rcases Ww.mp hy with hy | hy
        ·exact hr.1 y (List.mem_of_mem_take hy)
        ·exact hr.1 y (List.mem_of_mem_drop hy),by omega,by omega⟩
       rw [Wo hru] at hsp;refine hok _ hru (IJ hin (λk hk=>?_) ?_) hsp
       ·unfold Aq.ro lkm;rw [toL,hk]
        repeat rw [if_neg (by decide)]
        rw [if_pos (by rw [A6];decide),if_neg (by decide),AI,if_pos rfl,if_pos (by show (L.length:Int)=_;rw [hL];decide),if_pos (by show (0:Int)<(L.length:Int);omega),if_neg (by decide),if_pos rfl,if_neg hn,if_neg (by omega)]
       ·unfold Aq.chg;exact hin.b (.t ⟨rfl,by show 0<L.length;omega⟩ (.f (by decide) (.f (λh=>absurd h.1 (by decide)) (.t ⟨rfl,hL,hp,by show rd L 0<_;omega,h11⟩ ((Gc (by omega) (by omega)).b (.c rfl))))))
    ·rw [hd] at hne;refine h0 ⟨#[110,111]⟩ l (by decide) (Jg ?_) ?_ rfl
     ·unfold Aq.ro lkm;rw [toL]
      repeat (refine Ev.f (by decide) ?_)
      refine .t (by rw [A6];decide) (.f (by decide) (hin.b ?_));by_cases ho:ok=true
      ·exact .t ho (.f (λh=>hno ho (by have h2:(L.length:Int)=1:=h.trans (by decide);omega)) (.c rfl))
      ·exact .f ho (.c rfl)
     ·unfold Bu.f;exact hs.b (.f (by decide) (.f (by rw [toL];decide) (.f (by rw [toL];decide) (.t (toL _) (.n (.c rfl))))))
   ·obtain ⟨t,g1,g2,g3⟩:=Rm hr (bytes x) (bytes r) hrs (by rw [A6];omega) (by rw [toL];exact h1) (by rw [toL];exact h2) (by rw [toL];exact h3);refine ⟨t,l,hr,g1,hi _ (Jg g2),srest x r hx hl (c:=(l,false,false)) ?_ (.f (by simp) (g3.b (.c rfl)))⟩;unfold Bu.f;exact hs.b (.f (by decide) (.f (by rw [toL];exact h1) (.f (by rw [toL];exact h2) (.f (by rw [toL];exact h3) (.c rfl)))))
theorem Kw:∀ x:List UInt8,(∀ b∈x,b≠32)\/∃ w r,x=w++32::r/\∀ b∈w,b≠32
 | []=>.inl λb h=>by cases h
 | c::x=>by
  by_cases hc:c=32
  ·exact .inr ⟨[],x,by rw [hc];rfl,λb h=>by cases h⟩
  ·rcases Kw x with h | ⟨w,r,rfl,h⟩
   ·refine .inl λb hb=>?_;rcases Wy.mp hb with rfl | hb
    ·exact hc
    ·exact h b hb
   ·refine .inr ⟨c::w,r,rfl,λb hb=>?_⟩;rcases Wy.mp hb with rfl | hb
    ·exact hc
    ·exact h b hb
theorem ST (hr:Ag l) (x:List UInt8) (hl:x.length<=600):∃ t l',IW l (bytes x) t l':=by
 rcases Kw x with h | ⟨w,r,rfl,h⟩
 ·exact Py hr x h hl
 ·exact Pz hr w r h hl
end

end U
namespace U
def RunP:List (List UInt8)->List Int->List UInt8->List Int->Prop
 | [],l,o,l'=>o=[]/\l'=l
 | p::ps,l,o,l'=>∃ t l1 o',IW l (bytes p) t l1/\RunP ps l1 o' l'/\o=t.data.toList++10::o'
theorem Rq:∀ (ps:List (List UInt8)) (l:List Int),Ag l->(∀ p∈ps,p.length<=600)->∃ o l',Ag l'/\RunP ps l o l'/\o.length<=1701*ps.length
 | [],l,hr,_=>⟨[],l,hr,⟨rfl,rfl⟩,WC _⟩
 | p::ps,l,hr,hp=>by
  obtain ⟨t,l1,h⟩:=ST hr p (hp p TO);obtain ⟨o,l',h1,h2,h3⟩:=Rq ps l1 h.1 λq hq=>hp q (S2 _ hq);refine ⟨_,l',h1,⟨t,l1,o,h,h2,rfl⟩,?_⟩;have:=h.2.1;rw [IN,It,Dy,It];omega
theorem TS (ls:List ByteArray) (h6:ls.length<=601):∀ (ps:List (List UInt8)) (i:Nat) (acc:List UInt8) (l:List Int) (o:List UInt8) (l':List Int),ls.drop i=ps.map bytes->(∀ p∈ps,p.length<=600)->acc.length<=1701*i->i<=ls.length->RunP ps l o l'->
  Ev (λk=>As.l0 k ls acc l (i:Int)) (acc++o,l')
 | [],i,acc,l,o,l',hd,_,ha,hi,h=>by
  obtain ⟨rfl,rfl⟩:=h;have:ls.length<=i:=List.drop_eq_nil_iff.mp hd;refine .s ?_;simp only [As.l0]
  exact .n (.c (by rw [List.append_nil]))
 | p::ps,i,acc,l,o,l',hd,hp,ha,hi,h=>by
  obtain ⟨t,l1,o',h1,h2,rfl⟩:=h
  have hil:i<ls.length:=by
   rcases Nat.lt_or_ge i ls.length with h | h
   ·exact h
   ·rw [Wm h] at hd;cases hd
  rw [Wl hil,Wz] at hd;obtain ⟨e1,e2⟩:=List.cons.inj hd
  have hrd:rdOf ByteArray.empty ls (i:Int)=bytes p:=by
   rw [<- e1];simp [rdOf,hil]
  have hz:=hp p TO;have ht:=h1.2.1;have hn:(t++(⟨#[10]⟩:ByteArray)).data.toList=t.data.toList++[10]:=by simp
  have g:=TS ls h6 ps (i+1) (acc++(t++(⟨#[10]⟩:ByteArray)).data.toList) l1 o' l' e2 (λq hq=>hp q (S2 _ hq)) (by rw [hn,IN,IN,Dy];simp only [It,IS];omega) (by omega) h2;rw [hn,Wr,Wr,List.singleton_append] at g;refine .s ?_;simp only [As.l0];rw [hrd,At (n:=i) (by omega)];refine .o (.o (.t (by rw [A6];omega) (.o ?_)));have hl:=h1.2.2.1;unfold I9 at hl
  have fin:Ev (λk=>if t.size<=4194304 then As.l0 k ls (acc++(t++(⟨#[10]⟩:ByteArray)).data.toList) l1 ((i+1:Nat):Int) else none) (acc++(t.data.toList++10::o'),l'):=by
   rw [hn];exact .o g
  by_cases c:(BE.f (bytes p)).2.2=true
  ·simp only [if_pos c] at hl ⊢;exact hl.b fin
  ·simp only [if_neg c] at hl ⊢;exact hl.b fin
def endOf (o:List UInt8) (l:List Int):ByteArray:=bytes (o++([115,116,105,99,107,115,32]++(Lib.itoa (l.length:Int)++[10])))
theorem O7 (s:ByteArray) (a b:Nat):s.extract a b=bytes ((s.data.toList.drop a).take (b-a)):=by
 rw [<- Eg (s.extract a b),Lib.extract_data]
theorem VI (s:ByteArray) (hs:s.size<=600):∀ (d i fr:Nat) (l:List Int) (pre o:List UInt8) (l':List Int),i+d=s.size->fr<=i->(∀ b∈(s.data.toList.drop fr).take (i-fr),b≠10)->pre.length<=1701*fr->l'.length<=1000->
  RunP (CS 10 (s.data.toList.drop fr)).dropLast l o l'->Ev (λk=>Co.l0 k s l (bytes pre) (fr:Int) (i:Int)) (endOf (pre++o) l'):=by
 intro d
 induction d with
 | zero=>
  intro i fr l pre o l' hi hf hn hp hl h;obtain rfl:i=s.size:=by omega
  have e:(s.data.toList.drop fr).take (s.size-fr)=s.data.toList.drop fr:=List.take_of_length_le (by rw [No,Dy];omega);rw [e] at hn;rw [H8 10 _ hn] at h;obtain ⟨rfl,rfl⟩:=h;have hd:Ev (λk=>AE.f k (l'.length:Int)) (bytes (Lib.itoa (l'.length:Int))):=NE (Cg (by omega));have hz:=Iz (n:=(l'.length:Int)) (Cg (by omega));refine .s ?_;simp only [Co.l0];rw [show (⟨#[115,116,105,99,107,115,32]⟩:ByteArray)=bytes [115,116,105,99,107,115,32] from rfl,show (⟨#[10]⟩:ByteArray)=bytes [10] from rfl];refine .n (hd.b (.t ?_ (.t ?_ (.t ?_ (.c ?_)))))
  ·rw [A6,A6];simp only [It,IS];omega
  ·rw [Di,A6,A6,IN];simp only [It,IS];omega
  ·rw [Di,Di,A6,A6,IN,IN];simp only [It,IS];omega
  ·rw [Di,Di,Di];unfold endOf
   rw [List.append_nil,Wr,Wr]
 | succ d ih=>
  intro i fr l pre o l' hi hf hn hp hl h;obtain ⟨b,h1,h2⟩:=Gd (s:=s) (i:=i) (by omega)
  have hlen:((s.data.toList.drop fr).take (i-fr)).length=i-fr:=by
   rw [IT,No,Dy];omega
  have hsplit:s.data.toList.drop fr=(s.data.toList.drop fr).take (i-fr)++(b::s.data.toList.drop (i+1)):=by
   rw [<- h1]
   conv=>lhs;rw [<- List.take_append_drop (i-fr) (s.data.toList.drop fr)]
   rw [List.drop_drop,show fr+(i-fr)=i by omega]
  refine .s ?_;simp only [Co.l0];rw [h2,At (n:=i) (by omega)];refine .o (.o ?_);by_cases hb:b=10
  ·subst hb;rw [hsplit,H7 10 _ hn,List.dropLast_cons_of_ne_nil (Hj 10 _)] at h;obtain ⟨t,l1,o',g1,g2,rfl⟩:=h;have ht:=g1.2.1;have hsp:=g1.2.2.2
   have hn2:t++(⟨#[10]⟩:ByteArray)=bytes (t.data.toList++[10]):=by
    rw [<- Di,Eg];rfl
   rw [hn2] at hsp;have g:=ih (i+1) (i+1) l1 (pre++(t.data.toList++[10])) o' l' (by omega) (Wn _) (by rw [Nat.sub_self,WE];intro b hb;cases hb) (by rw [IN,IN,Dy];simp only [It,IS];omega) hl g2;refine .t rfl (.o (.o (.o ?_)));rw [Rr,Rr,O7];refine Ev.b hsp (.t ?_ ?_)
   ·rw [A6,A6,IN,Dy];simp only [It,IS];omega
   ·simp only [Di];rw [Wr,Wr,List.singleton_append] at g;exact g
  ·have hb2:¬ ((b.toNat:Nat):Int)=10:=λe=>hb (UInt8.toNat_inj.mp (by have:(10:UInt8).toNat=10:=rfl;omega));refine .f hb2 (ih (i+1) fr l pre o l' (by omega) (by omega) ?_ hp hl h);intro c hc;rw [hsplit,show i+1-fr=(i-fr)+1 by omega,List.take_append,hlen,show i-fr+1-(i-fr)=1 by omega] at hc;rcases Ww.mp hc with hc | hc
   ·exact hn c (List.mem_of_mem_take hc)
   ·simp only [List.take_succ_cons,WE,Wx] at hc;rw [hc];exact hb
theorem Rp:Ag [3,4,5]:=by decide
theorem QB (s:ByteArray) (hs:s.size<=600):∃ o l',Ag l'/\RunP (CS 10 s.data.toList).dropLast [3,4,5] o l'/\Ev (λk=>As.f k s) (endOf o l')/\Ev (λk=>Co.f k s) (endOf o l'):=by
 have hpl:=Gs 10 s.data.toList;rw [Dy] at hpl;have hpn:=List.length_pos_iff.mpr (Hj 10 s.data.toList)
 have hpz:∀ p∈(CS 10 s.data.toList).dropLast,p.length<=600:=λp hp=>by
  have:=FI 10 s.data.toList p (by rw [List.dropLast_eq_take] at hp;exact List.mem_of_mem_take hp);rw [Dy] at this;omega
 obtain ⟨o,l',h1,h2,h3⟩:=Rq (CS 10 s.data.toList).dropLast [3,4,5] Rp hpz;rw [List.length_dropLast] at h3;have h9:=h1.2;refine ⟨o,l',h1,h2,?_,?_⟩
 ·have hi:=TS ((CS 10 s.data.toList).dropLast.map bytes) (by rw [NO,List.length_dropLast];omega) (CS 10 s.data.toList).dropLast 0 [] [3,4,5] o l' (by rw [WF]) hpz (WC _) (WC _) h2;unfold As.f;refine .n (.b (.c (JF 10 s (by omega))) (.t (by rw [NO];omega) ?_));rw [NO,<- List.map_take,<- List.dropLast_eq_take];refine Ev.b hi ?_;refine .t (by show o.length<=1048576;omega) ?_;show Ev (λk=>(strconv_Itoa.f (l'.length:Int)).bind _) _;have hz:=Iz (n:=(l'.length:Int)) (Cg (by omega));rw [MN (Cg (by omega))];refine .b (.c rfl) (.t (by rw [A6];omega) (.c ?_));unfold endOf;rw [show (⟨#[115,116,105,99,107,115,32]⟩:ByteArray)=bytes [115,116,105,99,107,115,32] from rfl,show (⟨#[10]⟩:ByteArray)=bytes [10] from rfl,Di,Di,Ws,Wr];rfl
 ·unfold Co.f;refine .n ?_;have:=VI s hs s.size 0 0 [3,4,5] [] o l' (by omega) (Wn _) (by intro b hb;cases hb) (WC _) (by omega) (by rw [WF];exact h2);rw [Ws] at this;exact this
theorem Sz (s:ByteArray):∃ v,Ev (λk=>As.f k s) v/\Ev (λk=>Co.f k s) v:=by
 by_cases hs:s.size<=600
 ·obtain ⟨o,l',-,-,h1,h2⟩:=QB s hs;exact ⟨_,h1,h2⟩
 ·refine ⟨⟨#[116,111,111,32,108,111,110,103,10]⟩,?_,?_⟩
  ·unfold As.f;exact .o (.c rfl)
  ·unfold Co.f;exact .o (.c rfl)
theorem FnExactExecute (s:ByteArray):∃ k,laws_FnExactExecute.f k s=some true:=by
 obtain ⟨v,h1,h2⟩:=Sz s;refine Ev.at (v:=true) ?_;unfold laws_FnExactExecute.f;exact .d (λ_=>.c rfl) λ_=>h2.b (h1.b (.t rfl (.c rfl)))

end U
section
def laws_FnExactExecute.Pure:Prop:=∀ (a0:ByteArray),a0.size<=140737488351232->∃ k,laws_FnExactExecute.f k a0=some true
theorem laws_FnExactExecute.walk (P:laws_FnExactExecute.Pure) (a0:ByteArray) (w:World) (ht:TabW w) (w0:a0.size<=140737488351232):Calls Tryz.prog 6 #[.string a0] w λe w'=>e=.returned (.bool true)/\Below w.heap.size w w':=by
 obtain ⟨k,h⟩:=P a0 w0;refine ((laws_FnExactExecute.ct h).go [.string a0] w ht (λ_=>True) rfl λi x u h1 h2=>?_).mono λe w' h=>?_
 ·rcases i with _ | i
  ·cases h1;cases h2;exact rfl
  ·simp at h1
 ·obtain ⟨hb,v,rfl,hv⟩:=h;obtain rfl:v=.bool true:=hv;exact ⟨rfl,hb⟩
theorem FnExactExecute_pure:laws_FnExactExecute.Pure:=λa0 _=>U.FnExactExecute a0

end
end Go.Proofs.YtlgojeodceiglaaGreatDoor.PFnExactExecute
