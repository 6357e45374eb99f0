/- The law FnExecuteWhat: its plain law, its walk. -/
import Derived.Test.YtlgojeodceiglaaGreatDoorC1
import Derived.Test.YtlgojeodceiglaaGreatDoorB6
namespace Go.Proofs.YtlgojeodceiglaaGreatDoor.PFnExactExecute
open Go.RowKit Go.Proofs.YtlgojeodceiglaaGreatDoorW.PrintWords Go.Proofs.YtlgojeodceiglaaGreatDoorW.PrintLast Go.Proofs.YtlgojeodceiglaaGreatDoorW.PrintMore
attribute [local go_sem] WO WQ WS WT WM WN WP WR
set_option linter.unusedVariables false
set_option linter.unusedSimpArgs false
set_option maxRecDepth 100000
set_option maxHeartbeats 0
section
def laws_FnExecuteWhat.g (k:Nat) (s:ByteArray):Option Bool:=(As.f k s).bind λo=>(Co.f k s).bind λw=>(if o.toList=w.toList then ((laws_complete.f k s).bind λc=>(if (c.size:Int)>588 then some true else ((As.f k c).bind λa=>
 (if c.size+(⟨#[122,122,122,10,115,101,116,32,120,10]⟩:ByteArray).size<=9223372036854775807 then ((As.f k (c++⟨#[122,122,122,10,115,101,116,32,120,10]⟩)).bind λb=>(laws_lastLine.f k a).bind λp=>
  (if 0<=wrap64 ((a.size:Int)-(p.size:Int)) then (if wrap64 ((a.size:Int)-(p.size:Int))<=(a.size:Int) then (if (a.extract 0 (wrap64 ((a.size:Int)-(p.size:Int))).toNat).size+(⟨#[119,104,97,116,10,110,111,10]⟩:ByteArray).size<=9223372036854775807 then
   (if (a.extract 0 (wrap64 ((a.size:Int)-(p.size:Int))).toNat++(⟨#[119,104,97,116,10,110,111,10]⟩:ByteArray)).size+p.size<=9223372036854775807 then some (decide (b.toList=((a.extract 0 (wrap64 ((a.size:Int)-(p.size:Int))).toNat++(⟨#[119,104,97,116,10,110,111,10]⟩:ByteArray))++p).toList)) else none) else none) else none) else none)) else none)))) else some false)
end
namespace U
def flat (ls:List (List UInt8)):List UInt8:=(ls.map (·++[10])).flatten
theorem flat_cons (x:List UInt8) (ls:List (List UInt8)):flat (x::ls)=x++10::flat ls:=by simp [flat]
theorem flat_app (ls qs:List (List UInt8)):flat (ls++qs)=flat ls++flat qs:=by unfold flat;rw [List.map_append,List.flatten_append]
theorem flat_end (ls:List (List UInt8)):flat ls=[]\/∃ q,flat ls=q++[10]:=by
 rcases List.eq_nil_or_concat ls with rfl | ⟨q,x,rfl⟩
 ·exact .inl rfl
 ·exact .inr ⟨flat q++x,by rw [List.concat_eq_append,flat_app,flat_cons,Wr];rfl⟩
theorem flat_ex:∀ x:List UInt8,∃ ls t,(∀ l∈ls,∀ b∈l,b≠(10:UInt8))/\(∀ b∈t,b≠(10:UInt8))/\x=flat ls++t
 | []=>⟨[],[],(λ_ h=>nomatch h),(λ_ h=>nomatch h),rfl⟩
 | c::x=>by
  obtain ⟨ls,t,h1,h2,rfl⟩:=flat_ex x;by_cases hc:c=10
  ·exact ⟨[]::ls,t,λl h=>by
    rcases Wy.mp h with rfl | h
    ·intro b hb;cases hb
    ·exact h1 l h,h2,by subst hc;rw [flat_cons];rfl⟩
  ·match ls,h1 with
   | [],_=>exact ⟨[],c::t,(λ_ h=>nomatch h),λb h=>(Wy.mp h).elim (λe=>e▸hc) (h2 b),rfl⟩
   | l::ls,h1=>exact ⟨(c::l)::ls,t,λq h=>by
     rcases Wy.mp h with rfl | h
     ·exact λb h=>(Wy.mp h).elim (λe=>e▸hc) (h1 l TO b)
     ·exact h1 q (S2 _ h),h2,by rw [flat_cons,flat_cons];rfl⟩
theorem flat_pieces:∀ (ls:List (List UInt8)) (t:List UInt8),(∀ l∈ls,∀ b∈l,b≠(10:UInt8))->(∀ b∈t,b≠(10:UInt8))->CS 10 (flat ls++t)=ls++[t]
 | [],t,_,h=>H8 10 t h
 | l::ls,t,h1,h2=>by
  rw [flat_cons,Wr,List.cons_append,H7 10 l (h1 l TO),flat_pieces ls t (λq hq=>h1 q (S2 _ hq)) h2];rfl
theorem line_same {l:List Int} {p t t2:ByteArray} {l1 l2:List Int} (h1:IW l p t l1) (h2:IW l p t2 l2):t=t2/\l1=l2:=In (Ev.one h1.2.2.1 h2.2.2.1)
theorem run_same:∀ (ps:List (List UInt8)) {l o l' o2 l2},RunP ps l o l'->RunP ps l o2 l2->o=o2/\l'=l2
 | [],_,_,_,_,_,h,g=>⟨h.1.trans g.1.symm,h.2.trans g.2.symm⟩
 | _::ps,_,_,_,_,_,⟨t,l1,o',h1,h2,h3⟩,⟨t2,l2,o2',g1,g2,g3⟩=>by
  obtain ⟨rfl,rfl⟩:=line_same h1 g1;obtain ⟨rfl,rfl⟩:=run_same ps h2 g2;exact ⟨h3.trans g3.symm,rfl⟩
theorem run_app:∀ (ps qs:List (List UInt8)) {l o l'},RunP (ps++qs) l o l'->∃ o1 l1 o2,RunP ps l o1 l1/\RunP qs l1 o2 l'/\o=o1++o2
 | [],_,l,o,_,h=>⟨[],l,o,⟨rfl,rfl⟩,h,rfl⟩
 | _::ps,qs,_,_,_,⟨t,l1,o',h1,h2,h3⟩=>by
  obtain ⟨o1,m,o2,g1,g2,rfl⟩:=run_app ps qs h2;exact ⟨_,m,o2,⟨t,l1,o1,h1,g1,rfl⟩,g2,by rw [h3,Wr];rfl⟩
theorem run_flat:∀ (ps:List (List UInt8)) {l o l'},RunP ps l o l'->∃ ts,o=flat ts
 | [],_,_,_,h=>⟨[],h.1⟩
 | _::ps,_,_,_,⟨t,l1,o',h1,h2,h3⟩=>by
  obtain ⟨ts,rfl⟩:=run_flat ps h2;exact ⟨t.data.toList::ts,by rw [h3,flat_cons]⟩
theorem scr (ls:List (List UInt8)) (t:List UInt8) (h1:∀ l∈ls,∀ b∈l,b≠(10:UInt8)) (h2:∀ b∈t,b≠(10:UInt8)) (hs:(flat ls++t).length<=600) :
  ∃ o l',Ag l'/\RunP ls [3,4,5] o l'/\Ev (λk=>As.f k (bytes (flat ls++t))) (endOf o l'):=by
 obtain ⟨o,l',a,b,c,_⟩:=QB (bytes (flat ls++t)) (by rw [A6];exact hs);rw [show (bytes (flat ls++t)).data.toList=flat ls++t from rfl,flat_pieces ls t h1 h2,List.dropLast_concat] at b;exact ⟨o,l',a,b,c⟩
theorem bt_mid (x:List UInt8) (b:UInt8) (y:List UInt8):bt (bytes (x++b::y)) (x.length:Int)=(b.toNat:Int):=by
 obtain ⟨c,h1,h2⟩:=Gd (s:=bytes (x++b::y)) (i:=x.length) (by rw [A6,IN,It];omega);rw [show (bytes (x++b::y)).data.toList=x++b::y from rfl,List.drop_left] at h1;rw [h2,(List.cons.inj h1).1]
theorem not_ten {b:UInt8} (h:b≠10):¬ ((b.toNat:Nat):Int)=10:=λe=>h (UInt8.toNat_inj.mp (by have:(10:UInt8).toNat=10:=rfl;omega))
theorem complete_ev (ls:List (List UInt8)) (t:List UInt8) (h2:∀ b∈t,b≠(10:UInt8)) (hs:(flat ls++t).length<=1000000):Ev (λk=>laws_complete.f k (bytes (flat ls++t))) (bytes (flat ls)):=by
 have hz:(bytes (flat ls++t)).size=(flat ls).length+t.length:=by rw [A6,IN]
 rw [IN] at hs
 have go:∀ d,d<=t.length->Ev (λk=>laws_complete.l0 k (bytes (flat ls++t)) (((flat ls).length+d:Nat):Int)) (bytes (flat ls)):=by
  intro d
  induction d with
  | zero=>
   intro _;refine .s ?_;simp only [laws_complete.l0];rcases flat_end ls with e | ⟨q,e⟩
   ·rw [e];exact .f (by simp) (.c rfl)
   ·have hl:(flat ls).length=q.length+1:=by rw [e,IN];rfl
    have hw:wrap64 (((flat ls).length+0:Nat)-1:Int)=(q.length:Int):=by unfold wrap64;omega
    rw [hw]
    have hb:bt (bytes (flat ls++t)) (q.length:Int)=10:=by
     rw [e,Wr];exact bt_mid q 10 t
    refine .t (by omega) (.t (by omega) (.t (by omega) (.t hb (.t (by omega) (.t (by omega) (.c ?_))))));rw [Rr,O7,Nat.sub_zero,WF,Nat.add_zero];show some (bytes ((flat ls++t).take _))=_
    rw [List.take_left]
  | succ d ih=>
   intro hd;refine .s ?_;simp only [laws_complete.l0];have hw:wrap64 (((flat ls).length+(d+1):Nat)-1:Int)=(((flat ls).length+d:Nat):Int):=by unfold wrap64;omega
   rw [hw]
   have e:flat ls++t=(flat ls++t.take d)++t[d]::t.drop (d+1):=by
    rw [Wr,<- Wl,List.take_append_drop]
   have hl:(flat ls).length+d=(flat ls++t.take d).length:=by rw [IN,IT];omega
   have hb:¬ bt (bytes (flat ls++t)) (((flat ls).length+d:Nat):Int)=10:=by
    rw [hl,e,bt_mid];exact not_ten (h2 _ (Wk _))
   exact .t (by omega) (.t (by omega) (.t (by omega) (.f hb (ih (by omega)))))
 have:=go t.length (Wn _);unfold laws_complete.f;rw [hz];exact this
theorem last_ev (ts:List (List UInt8)) (q:List UInt8) (h2:∀ b∈q,b≠(10:UInt8)) (hs:(flat ts).length+q.length<=2000000):Ev (λk=>laws_lastLine.f k (bytes (flat ts++(q++[10])))) (bytes (q++[10])):=by
 have hz:(bytes (flat ts++(q++[10]))).size=(flat ts).length+q.length+1:=by rw [A6,IN,IN];rfl
 have go:∀ d,d<=q.length->Ev (λk=>laws_lastLine.l0 k (bytes (flat ts++(q++[10]))) ((((flat ts).length+d:Nat):Int)-1)) (bytes (q++[10])):=by
  intro d
  induction d with
  | zero=>
   intro _;refine .s ?_;simp only [laws_lastLine.l0];rcases flat_end ts with e | ⟨p,e⟩
   ·rw [e];exact .f (by simp) (.c rfl)
   ·have hl:(flat ts).length=p.length+1:=by rw [e,IN];rfl
    have hw:(((flat ts).length+0:Nat):Int)-1=(p.length:Int):=by omega
    have hw2:wrap64 ((p.length:Int)+1)=((flat ts).length:Int):=by unfold wrap64;omega
    rw [hw,hw2]
    have hb:bt (bytes (flat ts++(q++[10]))) (p.length:Int)=10:=by
     rw [e,Wr];exact bt_mid p 10 _
    refine .t (by omega) (.t (by omega) (.t hb (.t (by omega) (.t (by omega) (.c ?_)))));rw [Rr,O7];show some (bytes (((flat ts++(q++[10])).drop _).take _))=_
    rw [List.drop_left,List.take_of_length_le (by rw [hz,IN];simp;omega)]
  | succ d ih=>
   intro hd;refine .s ?_;simp only [laws_lastLine.l0];have hw:(((flat ts).length+(d+1):Nat):Int)-1=(((flat ts).length+d:Nat):Int):=by omega
   have hw2:wrap64 ((((flat ts).length+d:Nat):Int)-1)=(((flat ts).length+d:Nat):Int)-1:=by unfold wrap64;omega
   rw [hw,hw2]
   have e:flat ts++(q++[10])=(flat ts++q.take d)++q[d]::(q.drop (d+1)++[10]):=by
    rw [Wr,<- List.cons_append,<- Wl,<- Wr (q.take d),List.take_append_drop]
   have hl:(flat ts).length+d=(flat ts++q.take d).length:=by rw [IN,IT];omega
   have hb:¬ bt (bytes (flat ts++(q++[10]))) (((flat ts).length+d:Nat):Int)=10:=by
    rw [hl,e,bt_mid];exact not_ten (h2 _ (Wk _))
   exact .t (by omega) (.t (by omega) (.f hb (ih (by omega))))
 have:=go q.length (Wn _);unfold laws_lastLine.f;rw [hz,show wrap64 ((((flat ts).length+q.length+1:Nat):Int)-2)=(((flat ts).length+q.length:Nat):Int)-1 by unfold wrap64;omega];exact this
def tellN (l:List Int):List UInt8:=[115,116,105,99,107,115,32]++Lib.itoa (l.length:Int)
theorem endOf_is (o:List UInt8) (l:List Int):endOf o l=bytes (o++(tellN l++[10])):=by
 unfold endOf tellN;rw [Wr]
theorem tellN_nl {l:List Int} (h:Ag l):(∀ b∈tellN l,b≠10)/\(tellN l).length<=30:=by
 have key:∀ n:Nat,n<10->(∀ b∈[115,116,105,99,107,115,32]++Lib.itoa (n:Int),b≠(10:UInt8))/\([115,116,105,99,107,115,32]++Lib.itoa (n:Int)).length<=30:=by decide +kernel
 exact key l.length (by have:=h.2.2;omega)
theorem run_len {ps:List (List UInt8)} {l:List Int} (hr:Ag l) (hp:∀ p∈ps,p.length<=600) {o l'} (h:RunP ps l o l'):o.length<=1701*ps.length:=by
 obtain ⟨o2,l2,_,g,h3⟩:=Rq ps l hr hp;obtain ⟨rfl,_⟩:=run_same ps h g;exact h3
theorem script_of (s:ByteArray):∃ ls t,(∀ l∈ls,∀ b∈l,b≠(10:UInt8))/\(∀ b∈t,b≠(10:UInt8))/\s=bytes (flat ls++t):=by
 obtain ⟨ls,t,h1,h2,e⟩:=flat_ex s.data.toList;exact ⟨ls,t,h1,h2,by rw [<- e,Eg]⟩
theorem scr_of (ls:List (List UInt8)) (h1:∀ l∈ls,∀ b∈l,b≠(10:UInt8)) (hs:(flat ls).length<=600) :
  ∃ o l',Ag l'/\RunP ls [3,4,5] o l'/\Ev (λk=>As.f k (bytes (flat ls))) (endOf o l'):=by
 have:=scr ls [] h1 (λ_ h=>nomatch h) (by rw [List.append_nil];exact hs);rw [List.append_nil] at this;exact this
theorem flatLen:∀ ls:List (List UInt8),ls.length<=(flat ls).length/\∀ p∈ls,p.length<=(flat ls).length
 | []=>⟨Wn _,(λ_ h=>nomatch h)⟩
 | x::ls=>by
  have h:=flatLen ls;rw [flat_cons,IN,It,It];exact ⟨by omega,λp hp=>(Wy.mp hp).elim (λe=>by rw [e];omega) λhp=>by have:=h.2 p hp;omega⟩
theorem told_of {ls:List (List UInt8)} (hs:(flat ls).length<=600) {o l'} (hr:Ag l') (h:RunP ls [3,4,5] o l'):Ev (λk=>laws_lastLine.f k (endOf o l')) (bytes (tellN l'++[10]))/\(endOf o l').size=o.length+(tellN l'++[10]).length/\o.length<=1100000/\(tellN l'++[10]).length<=31:=by
 have hn:=tellN_nl hr;have hl:=flatLen ls;have ho:=run_len Rp (λp hp=>by have:=hl.2 p hp;omega) h;obtain ⟨ts,rfl⟩:=run_flat ls h;refine ⟨?_,by rw [endOf_is,A6,IN],by omega,by rw [IN];exact Nat.succ_le_succ hn.2⟩;rw [endOf_is];exact last_ev ts (tellN l') hn.1 (by omega)
section
variable {l:List Int}
theorem keep_bare (hr:Ag l) (x:List UInt8) (hx:∀ b∈x,b≠32) (hl:x.length<=600) (h1:¬ x=[115,111,114,116]) (h2:¬ x=[98,97,99,107]) {t:ByteArray} {l':List Int} (h:IW l (bytes x) t l'):l'=l/\Ev (λk=>Ef.f k l (bytes x)) (t++⟨#[10]⟩):=by
 obtain ⟨u,g1,g2,g3⟩:=Qm hr (bytes x) (by rw [toL];exact h1) (by rw [toL];exact h2)
 have g:Ev (λk=>BF.f k l (bytes x)) (l,u++⟨#[10]⟩):=sbare _ hx hl (c:=(l,false,false)) (by
  unfold Bu.f
  exact Km.b (.t rfl (.f (by rw [toL];exact h1) (.f (by rw [toL];exact h2) (.c rfl))))) (.f (by simp) (g3.b (.c rfl)))
 obtain ⟨e1,e2⟩:=In (h.2.2.2.one g);exact ⟨e1,by rw [e2];exact g3⟩
end
section
variable {l:List Int}
theorem what_lines (hr:Ag l) {o:List UInt8} {l2:List Int} (h:RunP [[122,122,122],[115,101,116]++32::[120]] l o l2):o=[119,104,97,116,10,110,111,10]/\l2=l:=by
 obtain ⟨t,l1,o1,g1,⟨t2,l3,o2,g2,⟨rfl,rfl⟩,rfl⟩,rfl⟩:=h;obtain ⟨rfl,g⟩:=keep_bare hr [122,122,122] (by decide) (by decide) (by decide) (by decide) g1
 have e1:t++⟨#[10]⟩=⟨#[119,104,97,116,10]⟩:=by
  refine g.one ?_;unfold Ef.f ER.f;rw [toL]
  repeat (refine Ev.f (by decide) ?_)
  exact .c rfl
 have hs:Ev (λk=>Ay.f k (bytes [120])) ((D7 [120]).getD []):=Kp (s:=bytes [120]) (by decide);have en:(D7 [120]).getD []=([]:List Int):=by decide +kernel
 rw [en] at hs
 have h2:Ev (λk=>BF.f k l1 (bytes ([115,101,116]++32::[120]))) (l1,⟨#[110,111,10]⟩):=srest [115,101,116] [120] (by decide) (by decide) (c:=([],true,decide (Ag []))) (by
  unfold Bu.f
  exact hs.b (.f (by decide) (.t (toL _) (srul (L:=[]) (by decide))))) (.t rfl (.f (by decide) (.c rfl)))
 obtain ⟨rfl,e2⟩:=In (g2.2.2.2.one h2);refine ⟨?_,rfl⟩;have d1:t.data.toList++[10]=[119,104,97,116,10]:=by simpa using WL (λb:ByteArray=>b.data.toList) e1
 have d2:t2.data.toList++[10]=[110,111,10]:=by simpa using WL (λb:ByteArray=>b.data.toList) e2
 rw [show t.data.toList++10::(t2.data.toList++[10])=(t.data.toList++[10])++(t2.data.toList++[10]) by simp,d1,d2];rfl
end
theorem what_ev (s:ByteArray) (hs:s.size<=1000000):Ev (λk=>laws_FnExecuteWhat.g k s) true:=by
 unfold laws_FnExecuteWhat.g;obtain ⟨v,hi,hp⟩:=Sz s;refine hi.b (hp.b (.t rfl ?_));obtain ⟨ls,t,h1,h2,rfl⟩:=script_of s;rw [A6] at hs;refine (complete_ev ls t h2 hs).b ?_;rw [A6];refine .d (λ_=>.c rfl) λh6=>?_;obtain ⟨o,l',hr,hrun,he⟩:=scr_of ls h1 (by omega);obtain ⟨hp,hz,ho,hn⟩:=told_of (by omega) hr hrun
 have eW:bytes (flat ls)++⟨#[122,122,122,10,115,101,116,32,120,10]⟩=bytes (flat (ls++[[122,122,122],[115,101,116]++32::[120]])):=by
  rw [flat_app,<- Di];rfl
 obtain ⟨o2,l2,_,hrun2,he2⟩:=scr_of (ls++[[122,122,122],[115,101,116]++32::[120]]) (λp hp=>by
  rcases Ww.mp hp with hp | hp
  ·exact h1 p hp
  ·exact (by decide:∀ p∈[[122,122,122],[115,101,116]++32::[120]],∀ b∈p,b≠(10:UInt8)) p hp) (by rw [flat_app,IN];have:(flat [[122,122,122],[115,101,116]++32::[120]]).length=10:=rfl;omega)
 obtain ⟨o1,l1,o3,k1,k2,rfl⟩:=run_app ls _ hrun2;obtain ⟨rfl,rfl⟩:=run_same ls hrun k1;obtain ⟨rfl,rfl⟩:=what_lines hr k2;have hw:wrap64 (((endOf o l2).size:Int)-((bytes (tellN l2++[10])).size:Int))=(o.length:Int):=by rw [hz,A6];unfold wrap64;omega
 have hx:(endOf o l2).extract 0 o.length=bytes o:=by
  rw [endOf_is,O7,Nat.sub_zero,WF];show bytes ((o++(tellN l2++[10])).take _)=_;rw [List.take_left]
 refine he.b (.t (by show (flat ls).length+10<=_;omega) ?_);rw [eW];refine he2.b (hp.b ?_);rw [hw,Rr,hx];refine .t (by omega) (.t (by rw [hz];omega) (.t (by rw [A6];show o.length+8<=_;omega) (.t ?_ (.c ?_))))
 ·rw [show (⟨#[119,104,97,116,10,110,111,10]⟩:ByteArray)=bytes [119,104,97,116,10,110,111,10] from rfl,Di,A6,A6,IN];show o.length+8+_<=_;omega
 ·rw [endOf_is,show (⟨#[119,104,97,116,10,110,111,10]⟩:ByteArray)=bytes [119,104,97,116,10,110,111,10] from rfl,Di,Di,Wo rfl]
end U
section
theorem FnExecuteWhat_pure (s:ByteArray) (hs:s.size<=1000000):∃ k,laws_FnExecuteWhat.g k s=some true:=(U.what_ev s hs).at
theorem laws_FnExecuteWhat.walk (P:∀ s:ByteArray,s.size<=1000000->∃ k,laws_FnExecuteWhat.g k s=some true) (a0:Option Addr) (len0 cap0:Nat) (z0:List Int) (w:World) (ht:TabW w) (w0:(a0=none/\len0=0/\cap0=0/\z0=[])\/∃ x,a0=some x/\len0<=cap0/\cap0<=maxLen/\z0.length=cap0/\(∀ i,i<z0.length->w.cell? (x.add i)=some (.int .u8 (z0.getD i 0)))/\∀ n∈z0,(Lit.int .u8 n).wf=true) :
  Calls Tryz.prog 5 #[.slice a0 len0 cap0] w λe w'=>e=.returned (.bool true)/\Below w.heap.size w w':=by
 obtain ⟨l,rfl,hC,hb,hc⟩:=row_ex w0;by_cases h:1048576<(l.length:Int)
 ·have d1:=Wo h;have d2:decide (1048576<l.length)=true:=Wo (by omega);go_enter Tryz.func5,Tryz.ntmps5;go_wp2;go_ret;exact ⟨rfl,WG _ _⟩
 ·have d1:=Wp h;have d2:decide (1048576<l.length)=false:=Wp (by omega);go_enter Tryz.func5,Tryz.ntmps5;generalize hR:(Code.region 4 _ _).seq _=R
  go_wp2_with (
   go_at_call 7;refine (draw_ex _ _ l _ hC hc hb).mono ?_
   rintro e w1 ⟨⟨s,rfl,hs⟩,hB⟩)
  subst hR;obtain ⟨k,hk⟩:=P s (by omega);refine law_rest ht hB (j:=3) rfl rfl ?_;revert hk;unfold laws_FnExecuteWhat.g
  repeat' first
   | refine stp ?_
   | (with_reducible refine spr ?_;intro h)
   | with_reducible refine And.intro ?_ ?_
   | intro h
   | refine DB false false (by kernel_rfl) rfl ?_
   | refine RK.call (As.ct (by with_reducible assumption)) rfl rfl rfl ?_
   | refine RK.call (Co.ct (by with_reducible assumption)) rfl rfl rfl ?_
   | refine RK.call (laws_complete.ct (by with_reducible assumption)) rfl rfl rfl ?_
   | refine RK.call (laws_lastLine.ct (by with_reducible assumption)) rfl rfl rfl ?_
   | refine rks ?_
   | exact (rfl:_=_)
   | exact WL (λq=>RV.v (BV.b q)) h
   | fail
end

end Go.Proofs.YtlgojeodceiglaaGreatDoor.PFnExactExecute
