/- Execute: a part of what is shown of the program's Execute and the reference's. -/
import Derived.Test.YtlgojeodceiglaaGreatDoorA6f
import Derived.Test.YtlgojeodceiglaaGreatDoorA8
import Derived.Test.YtlgojeodceiglaaGreatDoorA9
namespace Go.Proofs.YtlgojeodceiglaaGreatDoor.PFnExactExecute
open Go.RowKit Go.Proofs.YtlgojeodceiglaaGreatDoorW.PrintWords Go.Proofs.YtlgojeodceiglaaGreatDoorW.PrintLast Go.Proofs.YtlgojeodceiglaaGreatDoorW.PrintMore
attribute [local go_sem] WO WQ WS WT WM WN WP WR
set_option linter.unusedVariables false
set_option linter.unusedSimpArgs false
set_option maxRecDepth 100000
set_option maxHeartbeats 0
section
def AO.f (k:Nat) (l:List Int) (word:ByteArray):Option (ByteArray×List Int):=
 if word=(⟨#[115,111,114,116]⟩:ByteArray) then ((Cy.f k l).bind λt=>some (if t.2=true then (⟨#[111,107]⟩,t.1) else (⟨#[110,111]⟩,l)))
 else if word=(⟨#[98,97,99,107]⟩:ByteArray) then ((CV.f k l).bind λt=>some (if t.2=true then (⟨#[111,107]⟩,t.1) else (⟨#[110,111]⟩,l)))
 else (AO.ro k l word).bind λr=>some (r,l)
def Aq.chg (k:Nat) (l:List Int) (word rest:ByteArray):Option (ByteArray×List Int):=
 (Al.f k rest).bind λt=>if t.2=true/\0<t.1.length then
  (if word=(⟨#[115,101,116]⟩:ByteArray) then ((Am.f k t.1).bind λb=>some (if b=true then (⟨#[111,107]⟩,t.1) else (⟨#[110,111]⟩,l)))
  else if word=(⟨#[112,117,116]⟩:ByteArray)/\t.1.length=1 then ((Aj.f k l).bind λc=>(Am.f k (c++[rd t.1 0])).bind λb=>some (if b=true then (⟨#[111,107]⟩,c++[rd t.1 0]) else (⟨#[110,111]⟩,l)))
  else if word=(⟨#[100,114,111,112]⟩:ByteArray)/\t.1.length=1/\0<=rd t.1 0/\rd t.1 0<(l.length:Int)/\l.length≠1 then ((Aj.f k l).bind λc=>some (⟨#[111,107]⟩,c.take (rd t.1 0).toNat++c.drop ((rd t.1 0).toNat+1)))
  else none) else none
def Aq.f (k:Nat) (l:List Int) (word rest:ByteArray):Option (ByteArray×List Int):=
 match Aq.ro k l word rest with
 | some r=>some (r,l)
 | none=>Aq.chg k l word rest
theorem AO.calls (k B g:Nat) (A0:Option Addr) (c0:Nat) (l0:List Int) (word r:ByteArray) (l1:List Int) (w:World) (hg:w.heap[g]?=some (.cells #[.slice A0 l0.length c0] 32 (0,0))) (hr0:Kd.R (Kd.int .i64) 3 w B (λ_=>True) (.slice A0 l0.length c0) l0) (hB:B<=g) (htab_:TabW w) (h:AO.f k l0 word=some (r,l1)) :
  Calls Tryz.prog 20 #[.pointer (some ⟨g,0,none⟩),.string word] w λe w'=>e=.returned (.string r)/\Ruled w w' B g l1:=by
 unfold AO.f at h;by_cases c1:word=(⟨#[115,111,114,116]⟩:ByteArray)
 ·rw [if_pos c1] at h;obtain ⟨⟨t,b⟩,h1,h⟩:=By.mp h;subst c1
  cases b with
  | true=>
   obtain ⟨rfl,rfl⟩:=In (AS h)
   exact AO.go_sort_true k B g A0 c0 l0 _ w hg hr0 hB htab_ h1
  | false=>
   obtain ⟨rfl,rfl⟩:=In (AS h);exact AO.go_sort_false k B g A0 c0 l0 _ w hg hr0 hB htab_ h1
 ·rw [if_neg c1] at h;by_cases c2:word=(⟨#[98,97,99,107]⟩:ByteArray)
  ·rw [if_pos c2] at h;obtain ⟨⟨t,b⟩,h1,h⟩:=By.mp h;subst c2
   cases b with
   | true=>
    obtain ⟨rfl,rfl⟩:=In (AS h)
    exact AO.go_back_true k B g A0 c0 l0 _ w hg hr0 hB htab_ h1
   | false=>
    obtain ⟨rfl,rfl⟩:=In (AS h);exact AO.go_back_false k B g A0 c0 l0 _ w hg hr0 hB htab_ h1
  ·rw [if_neg c2] at h;obtain ⟨t,h1,h⟩:=By.mp h;obtain ⟨rfl,rfl⟩:=In (AS h);refine (AO.cp h1 [.string word] w g A0 c0 htab_ (Ak hg 0) (Kd.R_reads' hr0).2.2 (Kd.R_reads' hr0).2.1 rfl λi x u hx hu=>?_).mono ?_
   ·rcases i with _ | i
    ·cases hx;cases hu;exact ⟨_,rfl,rfl⟩
    ·simp at hx
   ·rintro e w' ⟨hb,v,rfl,rfl⟩;exact ⟨rfl,Ruled.same hg hr0 hb⟩
theorem Aq.calls (k B g:Nat) (A0:Option Addr) (c0:Nat) (l0:List Int) (word rest r:ByteArray) (l1:List Int) (w:World) (hg:w.heap[g]?=some (.cells #[.slice A0 l0.length c0] 32 (0,0))) (hr0:Kd.R (Kd.int .i64) 3 w B (λ_=>True) (.slice A0 l0.length c0) l0) (hB:B<=g) (htab_:TabW w) (h:Aq.f k l0 word rest=some (r,l1)) :
  Calls Tryz.prog 19 #[.pointer (some ⟨g,0,none⟩),.string word,.string rest] w λe w'=>e=.returned (.string r)/\Ruled w w' B g l1:=by
 unfold Aq.f at h
 cases h0:Aq.ro k l0 word rest with
 | some t=>
  rw [h0] at h;obtain ⟨rfl,rfl⟩:=In (AS h);refine (Aq.cp h0 [.string word,.string rest] w g A0 c0 htab_ (Ak hg 0) (Kd.R_reads' hr0).2.2 (Kd.R_reads' hr0).2.1 rfl λi x u hx hu=>?_).mono ?_
  ·rcases i with _ | _ | i
   ·cases hx;cases hu;exact ⟨_,rfl,rfl⟩
   ·cases hx;cases hu;exact ⟨_,rfl,rfl⟩
   ·simp at hx
  ·rintro e w' ⟨hb,v,rfl,rfl⟩
   exact ⟨rfl,Ruled.same hg hr0 hb⟩
 | none=>
  rw [h0] at h;unfold Aq.chg at h;obtain ⟨⟨q,ok⟩,h1,h⟩:=By.mp h;by_cases cq:ok=true/\0<q.length
  ·rw [if_pos cq] at h;obtain ⟨rfl,hp⟩:=cq;by_cases c1:word=(⟨#[115,101,116]⟩:ByteArray)
   ·rw [if_pos c1] at h;obtain ⟨b,h2,h⟩:=By.mp h;subst c1
    cases b with
    | true=>
     obtain ⟨rfl,rfl⟩:=In (AS h)
     exact Aq.go_set_true k B g A0 c0 l0 q rest q w hg hr0 hB htab_ h1 hp h2
    | false=>
     obtain ⟨rfl,rfl⟩:=In (AS h);exact Aq.go_set_false k B g A0 c0 l0 q rest q w hg hr0 hB htab_ h1 hp h2
   ·rw [if_neg c1] at h;by_cases c2:word=(⟨#[112,117,116]⟩:ByteArray)/\q.length=1
    ·rw [if_pos c2] at h;obtain ⟨c,h3,h⟩:=By.mp h;obtain ⟨b,h2,h⟩:=By.mp h;obtain ⟨rfl,hq1⟩:=c2
     have hcl:c.length<100000:=by
      have:=K3 h3;omega
     cases b with
     | true=>
      obtain ⟨rfl,rfl⟩:=In (AS h)
      exact Aq.go_put_true k B g A0 c0 l0 l0 rest q w hg hr0 hB htab_ h1 hp hq1 _ rfl c h3 hcl _ rfl h2
     | false=>
      obtain ⟨rfl,rfl⟩:=In (AS h);exact Aq.go_put_false k B g A0 c0 l0 l0 rest q w hg hr0 hB htab_ h1 hp hq1 _ rfl c h3 hcl _ rfl h2
    ·rw [if_neg c2] at h;by_cases c3:word=(⟨#[100,114,111,112]⟩:ByteArray)/\q.length=1/\0<=rd q 0/\rd q 0<(l0.length:Int)/\l0.length≠1
     ·rw [if_pos c3] at h;obtain ⟨c,h3,h⟩:=By.mp h;obtain ⟨rfl,rfl⟩:=In (AS h);obtain ⟨rfl,hq1,d1,d2,d3⟩:=c3;exact Aq.go_drop k B g A0 c0 l0 l0 rest q w hg hr0 hB htab_ h1 hp hq1 (rd q 0).toNat (by omega) (by omega) d3 c h3
     ·rw [if_neg c3] at h;cases h
  ·rw [if_neg cq] at h;cases h

end
section
theorem BE.index_in (s:ByteArray) (h:0<=Lib.indexByte s.data.toList 32):Lib.indexByte s.data.toList 32<(s.size:Int):=by
 have h1:=Lib.index_room s.data.toList [32] (by rw [Lib.index_one];exact h);rw [Lib.index_one] at h1;have h2:s.data.toList.length=s.size:=Array.length_toList;rw [h2] at h1;simp only [It,IS] at h1;omega
theorem BE.inner (s:ByteArray) (w:World) (hs:s.size<=4194304) :
  Calls Tryz.prog 27 #[.string s,.string ⟨#[32]⟩] w λe w'=>e=.returned (.tuple #[.string (BE.f s).1,.string (BE.f s).2.1,.bool (BE.f s).2.2])/\Drawn0 w w':=by
 obtain ⟨i,hi⟩:∃ i,Lib.indexByte s.data.toList 32=i:=⟨_,rfl⟩
 have hin:=BE.index_in s;unfold BE.f;rw [hi] at hin ⊢;have HI:=Aa.mk hi;clear hi;by_cases h0:0<=i
 ·rw [if_pos h0];have h1:=hin h0;have hw:IntKind.i64.wrap (i+1)=i+1:=(C9 _).trans (by unfold wrap64;omega);have c3:0<=i+1:=by omega
  have c4:i+1<=(s.size:Int):=by omega
  have c5:i<=(s.size:Int):=by omega
  have e1:(i+1).toNat=i.toNat+1:=by omega
  clear hin;go_enter Tryz.func27,Tryz.ntmps27
  go_wp2_with (go_at_call 86;refine (Go.Proofs.YtlgojeodceiglaaGreatDoor.Shelf.Tryz.stringslite_Index_one s 32 _).mono ?_;rintro e w' ⟨rfl,rfl⟩;rw [HI.out])
  go_quiet (fail)
  go_wp2
  go_ret3
  exact ⟨rfl,⟨_,rfl⟩⟩
 ·rw [if_neg h0];clear hin;go_enter Tryz.func27,Tryz.ntmps27
  go_wp2_with (go_at_call 86;refine (Go.Proofs.YtlgojeodceiglaaGreatDoor.Shelf.Tryz.stringslite_Index_one s 32 _).mono ?_;rintro e w' ⟨rfl,rfl⟩;rw [HI.out])
  go_ret3
  exact ⟨rfl,Drawn0.refl _⟩
theorem BE.calls (s:ByteArray) (w:World) (hs:s.size<=4194304) :
  Calls Tryz.prog 17 #[.string s,.string ⟨#[32]⟩] w λe w'=>e=.returned (.tuple #[.string (BE.f s).1,.string (BE.f s).2.1,.bool (BE.f s).2.2])/\Drawn0 w w':=by
 obtain ⟨r,hr⟩:∃ r,BE.f s=r:=⟨_,rfl⟩
 have h:=BE.inner s w hs;rw [hr] at h ⊢;obtain ⟨r1,r2,r3⟩:=r;have H:=Aa.mk h;clear h hr;go_enter Tryz.func17,Tryz.ntmps17
 go_wp2_with (go_at_call 27;refine H.out.mono ?_;rintro e w' ⟨rfl,⟨⟨n,rfl⟩⟩⟩)
 go_ret3
 exact ⟨rfl,⟨_,rfl⟩⟩
theorem KM {T e t B b g:Nat} {bs:List Value} {cs:Array Value} {w w':World} (h:Lib.IsBuilderF T e B b bs w) (hg:w.grownBy w' (some g)) (hc:w.heap[g]?=some (.cells cs t (0,0))) (h1:t≠T) (h2:t≠e):Lib.IsBuilderF T e B b bs w':=by
 have one:∀ p,Lib.BuilderAtF T e B b p bs w->Lib.BuilderAtF T e B b p bs w':=by
  rintro p ⟨hB,v,hb,hown,hne⟩;have hbg:b≠g:=(Gl hc hb h1).symm;exact ⟨hB,v,CU hb hg (λe=>hbg (AS e)),hown.kept hg (.inr (Lib.ownBlock_neF hown hc h2)),hne⟩
 exact h.elim (λx=>.inl (one _ x)) (λx=>.inr (one _ x))
theorem KL {T e B b:Nat} {bs:List Value} {w w':World} (h:Lib.IsBuilderF T e B b bs w) (hb:Below w.heap.size w w'):Lib.IsBuilderF T e B b bs w':=by
 have hg:w.grownBy w' none:=⟨hb.os,hb.tape,hb.output,hb.size,λk hk _=>hb.block k hk⟩
 have one:∀ p,Lib.BuilderAtF T e B b p bs w->Lib.BuilderAtF T e B b p bs w':=by
  rintro p ⟨hB,v,hbb,hown,hne⟩;refine ⟨hB,v,Bl hbb hb,hown.kept hg ?_,hne⟩
  cases hv:v.ownBlock with
  | none=>exact .inl rfl
  | some q=>exact .inr (by simp)
 exact h.elim (λx=>.inl (one _ x)) (λx=>.inr (one _ x))
theorem Hu {T e B b:Nat} {bs:List Value} {w:World} (h:Lib.IsBuilderF T e B b bs w):∃ cs,w.heap[b]?=some (.cells cs T (0,0)):=by
 rcases h with ⟨_,v,hb,_⟩ | ⟨_,v,hb,_⟩<;>exact ⟨_,hb⟩
theorem Mo {α:Type} {d:Kd α} {e u T base b:Nat} {ok:Nat->Prop} {v:Value} {xs:List α} {cs:Array Value} {w w':World} (h:d.R e w base ok v xs) (hk:Lib.OthersKept u (some b) w w') (hb:w.heap[b]?=some (.cells cs T (0,0))) (hq:∀ q,q∈e::d.E->q≠u/\q≠T):d.R e w' base ok v xs:=
 Kd.R_mono (Kd.R_step (Kd.R_bound h) (λk hk' _=>by
  obtain ⟨_,_,_,q,hq',cells,hc⟩:=hk';rw [hc];refine hk k _ hc (λhe=>?_) (λc fz he=>?_)
  ·obtain rfl:=AS he;rw [hc] at hb;injection hb with hb;injection hb with _ hb;exact (hq q hq').2 hb
  ·injection he with _ he
   exact (hq q hq').1 he)) (λ_ hk=>hk.1)
theorem NC {u T t b g:Nat} {cs cs':Array Value} {w w':World} (hc:w.heap[g]?=some (.cells cs t (0,0))) (hk:Lib.OthersKept u (some b) w w') (hb:w.heap[b]?=some (.cells cs' T (0,0))) (h1:t≠u) (h2:t≠T):w'.heap[g]?=some (.cells cs t (0,0)):=
 hk g _ hc (λhe=>(Gl hc hb h2) (AS he)) (λc fz he=>by
  injection he with _ he
  exact h1 he)
theorem R9 {α:Type} {d:Kd α} {e t base g:Nat} {ok:Nat->Prop} {v:Value} {xs:List α} {cs:Array Value} {w w':World} (h:d.R e w base ok v xs) (hg:w.grownBy w' (some g)) (hc:w.heap[g]?=some (.cells cs t (0,0))) (ht:∀ q,q∈e::d.E->q≠t):d.R e w' base ok v xs:=
 Kd.R_mono (Kd.R_grown (Kd.R_types h hc ht) hg (λk hk he=>hk.2 (AS he))) (λ_ hk=>hk.1)
theorem Mr {w0 w w':World} {g:Nat} (h:Below w0.heap.size w0 w) (hg:w.grownBy w' (some g)) (hB:w0.heap.size<=g):Below w0.heap.size w0 w':=
 Du h (some g) h.size hg (λk hk=>by obtain rfl:=AS hk;exact hB)
def As.l0:Nat->List ByteArray->List UInt8->List Int->Int->Option (List UInt8×List Int)
 | 0,_,_,_,_=>none
 | k+1,ls,acc,l,i=>if i<(ls.length:Int) then (if 0<=i then (if (rdOf ByteArray.empty ls i).size<=4194304 then (if acc.length<=1048576 then
   (if (BE.f (rdOf ByteArray.empty ls i)).2.2=true then
    ((Aq.f k l (BE.f (rdOf ByteArray.empty ls i)).1 (BE.f (rdOf ByteArray.empty ls i)).2.1).bind λr=>if r.1.size<=4194304 then As.l0 k ls (acc++(r.1++(⟨#[10]⟩:ByteArray)).data.toList) r.2 (wrap64 (i+1)) else none)
   else
    ((AO.f k l (BE.f (rdOf ByteArray.empty ls i)).1).bind λr=>if r.1.size<=4194304 then As.l0 k ls (acc++(r.1++(⟨#[10]⟩:ByteArray)).data.toList) r.2 (wrap64 (i+1)) else none))
   else none) else none) else none) else some (acc,l)
def As.f (k:Nat) (s:ByteArray):Option ByteArray:=if (s.size:Int)>600 then some (⟨#[116,111,111,32,108,111,110,103,10]⟩:ByteArray) else
 ((CR.f s (⟨#[10]⟩:ByteArray)).bind λps=>if 1<=ps.length/\ps.length<=8388608 then
  ((As.l0 k (ps.take (ps.length-1)) [] [3,4,5] 0).bind λr=>if r.1.length<=1048576 then ((strconv_Itoa.f (r.2.length:Int)).bind λt=>if t.size<=100 then some ⟨(r.1++(((⟨#[115,116,105,99,107,115,32]⟩:ByteArray)++t)++(⟨#[10]⟩:ByteArray)).data.toList).toArray⟩ else none) else none) else none)
theorem As.write (B b:Nat) (acc:List UInt8) (s:ByteArray) (w:World) (h:Lib.IsBuilderF 35 5 B b (Lib.byteCells acc) w) (hl:acc.length+s.size<=140737488355328) (hB:B<=w.heap.size) :
  Calls Tryz.prog 18 #[.pointer (some ⟨b,0,none⟩),.string s] w λe w'=>e=.returned (.tuple #[.int .i64 s.size,.nilIface])/\Lib.IsBuilderF 35 5 B b (Lib.byteCells (acc++s.data.toList)) w'/\Below B w w'/\Lib.OthersKept 5 (some b) w w':=by
 have h0:=Any.Builder_WriteString_k (P:=Tryz.prog) (ρ:=Go.Proofs.YtlgojeodceiglaaGreatDoor.Shelf.Tryz.lays156_ren) { Go.Proofs.YtlgojeodceiglaaGreatDoor.Shelf.Tryz.lays156 with } Go.Proofs.YtlgojeodceiglaaGreatDoor.Shelf.Tryz.Builder_Extra_156 B b (Lib.byteCells acc) s w h (by rw [Lib.byteCells_length];exact hl) hB;refine Calls.mono h0 ?_;rintro e w' ⟨rfl,h1,h2,h3⟩;refine ⟨rfl,.inr ?_,h2,h3⟩;have e1:Lib.byteCells (acc++s.data.toList)=Lib.byteCells acc++Lib.strCells s:=by simp [Lib.byteCells,Lib.strCells]
 rw [e1];exact h1
def As.Inv (w0:World) (g b:Nat) (acc:List UInt8) (l:List Int) (w:World):Prop:=Below w0.heap.size w0 w/\Lib.IsBuilderF 35 5 w0.heap.size b (Lib.byteCells acc) w/\∃ A c,w.heap[g]?=some (.cells #[.slice A l.length c] 32 (0,0))/\Kd.R (Kd.int .i64) 3 w w0.heap.size (λ_=>True) (.slice A l.length c) l
theorem As.inv_ruled {w0 w w1:World} {g b:Nat} {acc:List UInt8} {l l1:List Int} (h:As.Inv w0 g b acc l w) (hg:w0.heap.size<=g) (hr:Ruled w w1 w0.heap.size g l1):As.Inv w0 g b acc l1 w1:=by
 obtain ⟨h1,h2,A,c,h3,_⟩:=h;exact ⟨Mr h1 hr.1 hg,KM h2 hr.1 h3 (by decide) (by decide),hr.2⟩
theorem As.lines_ruled {w0 w w1:World} {g b:Nat} {acc:List UInt8} {l l1:List Int} {v:Value} {ls:List ByteArray} (h:As.Inv w0 g b acc l w) (hp:Kd.R Kd.string 9 w w0.heap.size (λ_=>True) v ls) (hr:Ruled w w1 w0.heap.size g l1):Kd.R Kd.string 9 w1 w0.heap.size (λ_=>True) v ls:=by
 obtain ⟨h1,h2,A,c,h3,_⟩:=h;exact R9 hp hr.1 h3 (by decide)
theorem As.inv_wrote {w0 w w1:World} {g b:Nat} {acc acc1:List UInt8} {l:List Int} (h:As.Inv w0 g b acc l w) (h1:Lib.IsBuilderF 35 5 w0.heap.size b (Lib.byteCells acc1) w1) (h2:Below w0.heap.size w w1) (h3:Lib.OthersKept 5 (some b) w w1):As.Inv w0 g b acc1 l w1:=by
 obtain ⟨g1,g2,A,c,g3,g4⟩:=h;obtain ⟨cs,hb⟩:=Hu g2;exact ⟨g1.trans h2,h1,A,c,NC g3 h3 hb (by decide) (by decide),Mo g4 h3 hb (by decide)⟩
theorem As.lines_wrote {w0 w w1:World} {g b:Nat} {acc:List UInt8} {l:List Int} {v:Value} {ls:List ByteArray} (h:As.Inv w0 g b acc l w) (hp:Kd.R Kd.string 9 w w0.heap.size (λ_=>True) v ls) (h3:Lib.OthersKept 5 (some b) w w1):Kd.R Kd.string 9 w1 w0.heap.size (λ_=>True) v ls:=by
 obtain ⟨g1,g2,_⟩:=h;obtain ⟨cs,hb⟩:=Hu g2;exact Mo hp h3 hb (by decide)
theorem As.inv_below {w0 w w1:World} {g b:Nat} {acc:List UInt8} {l:List Int} (h:As.Inv w0 g b acc l w) (hb:Below w.heap.size w w1):As.Inv w0 g b acc l w1:=by
 obtain ⟨h1,h2,A,c,h3,h4⟩:=h;exact ⟨Bt h1 hb,KL h2 hb,A,c,Bl h3 hb,Kd.R_below h4 hb⟩
theorem As.calls (k:Nat) (a0 r:ByteArray) (w:World) (h:As.f k a0=some r) (htab_:TabW w) :
  Calls Tryz.prog 8 #[.string a0] w λe w'=>e=.returned (.string r)/\Below w.heap.size w w':=by
 have HTAB_:=Aa.mk htab_;clear htab_;have HB:=Aa.mk (WG w.heap.size w);unfold As.f at h;by_cases c0:(a0.size:Int)>600
 ·rw [if_pos c0] at h;have c0b0:decide (600<(a0.size:Int))=true:=Wo c0;have c0b1:decide (600<a0.size)=true:=Wo (by omega);clear c0;obtain rfl:=AS h;go_enter Tryz.func8,Tryz.ntmps8;go_wp2;go_ret;exact ⟨rfl,HB.out⟩
 ·rw [if_neg c0] at h;have c0b0:decide (600<(a0.size:Int))=false:=Wp c0;have c0b1:decide (600<a0.size)=false:=Wp (by omega);clear c0;obtain ⟨ps,h1,h⟩:=By.mp h;have A1:=Aa.mk h1;clear h1;by_cases c1:1<=ps.length/\ps.length<=8388608
  ·rw [if_pos c1] at h;obtain ⟨⟨acc1,l1⟩,h2,h⟩:=By.mp h
   obtain ⟨j,hj⟩:∃ j:Int,wrap64 ((ps.length:Int)-1)=j:=⟨_,rfl⟩
   have hjw:IntKind.i64.wrap ((ps.length:Int)-1)=j:=(C9 _).trans hj
   have hj1:j=(ps.length:Int)-1:=by
    rw [<- hj];unfold wrap64;omega
   obtain ⟨ls,hls⟩:∃ ls,ps.take (ps.length-1)=ls:=⟨_,rfl⟩
   rw [hls] at h2;have HLS:=Aa.mk (show ps.take j.toNat=ls by rw [<- hls,hj1];congr 1;omega);have HJ0:=Aa.mk (show 0<=j/\j<=(ps.length:Int) by omega);clear hj hj1 hls;have A2:=Aa.mk h2;clear h2;by_cases c2:acc1.length<=1048576
   ·rw [if_pos c2] at h;obtain ⟨t,h3,h⟩:=By.mp h;have A3:=Aa.mk h3;clear h3;by_cases c3:t.size<=100
    ·rw [if_pos c3] at h;have HE:=Aa.mk (AS h);have C1:=Aa.mk c1;have C2:=Aa.mk c2;have C3:=Aa.mk c3;have hz1:(9223372036854775807<7+t.size)=False:=eq_false (by omega);have hz2:(9223372036854775807<((⟨#[115,116,105,99,107,115,32]⟩:ByteArray)++t).size+1)=False:=eq_false (by rw [ByteArray.size_append,show (⟨#[115,116,105,99,107,115,32]⟩:ByteArray).size=7 from rfl];omega);have hz3:(9223372036854775807<7+t.size+1)=False:=eq_false (by omega);clear h c1 c2 c3
     obtain ⟨acc0,hacc0⟩:∃ y_:List UInt8,y_=([]:List UInt8):=⟨_,rfl⟩
     obtain ⟨l0,hl0⟩:∃ y_:List Int,y_=([3,4,5]:List Int):=⟨_,rfl⟩
     have A2:Aa (As.l0 k ls acc0 l0 0=some (acc1,l1)):=⟨by rw [hacc0,hl0];exact A2.out⟩
     have NA:=Aa.mk hacc0;have NL:=Aa.mk hl0;clear hacc0 hl0;go_enter Tryz.func8,Tryz.ntmps8
     go_wp2_with (first
      | ((with_reducible refine Er (N:=14) rfl ?_);refine Kd.R_lit (Kd.int .i64) _ 3 ?hg (N:=14) ?hd (xs:=([3,4,5]:List Int)) (inner:=[.int .i64 3,.int .i64 4,.int .i64 5]) (ok:=λ_=>True) (okp:=λ_=>True) ?hr ?hp (λ_ hk=>hk) trivial (WG _ _) (Wn _) (by simp) ?_;(case hd=>rfl);(case hg=>rfl);(case hr=>first | (go_simp;done) | (go_simp;rfl));(case hp=>exact (Reps.one (show Kd.M (Kd.int .i64) _ _ _ 3 [.int .i64 3] from rfl) (Reps.one (show Kd.M (Kd.int .i64) _ _ _ 4 [.int .i64 4] from rfl) (Reps.one (show Kd.M (Kd.int .i64) _ _ _ 5 [.int .i64 5] from rfl) (Reps.none _ _)))));intro v14 w14 ho hb hg_ hnew_;clear hg_ hnew_;rw [<- NL.out] at ho;have HO:=Aa.mk ho;have n1_:=Aa.mk hb;clear HB;have HB:=n1_;clear n1_ ho hb;obtain ⟨A14,c14,rfl⟩:=Kd.R_slice HO.out)
      | ((with_reducible refine Er (N:=3) rfl ?_);refine I1 ?hg (N:=3) ?hd (cs:=#[.slice none 0 0]) (t:=32) ?hr ?_;(case hd=>rfl);(case hg=>rfl);(case hr=>first | (go_simp;done) | (go_simp;rfl));intro g hg w3 hbox hb;have GE:=Aa.mk (show w.heap.size<=g by rw [hg];exact HB.out.size);have n0_:=Aa.mk (Bt HB.out hb);have n2_:=Aa.mk (Kd.R_below HO.out hb);have BK:=Aa.mk hbox;have cg:_=some _:=Ak hbox 0;have fg:=AD hbox 0;clear hg hb hbox HB HO;have HB:=n0_;have HO:=n2_;clear n0_ n2_)
      | ((with_reducible refine Er (N:=4) rfl ?_);refine I1 ?hg (N:=4) ?hd (cs:=#[.pointer none,.slice none 0 0]) (t:=35) ?hr ?_;(case hd=>rfl);(case hg=>rfl);(case hr=>first | (go_simp;done) | (go_simp;rfl));intro b hg w4 hbox hb;have GB:=Aa.mk (show w.heap.size<=b by rw [hg];exact (C6 HB.out GE.out).size);have HI:Aa (As.Inv w g b acc0 l0 w4):=⟨⟨Bt (C6 HB.out GE.out) hb,by rw [NA.out];exact .inl ⟨GB.out,.slice none 0 0,hbox,World.ownsRowF_nil _ _ _ _,by simp [Value.ownBlock]⟩,A14,c14,Bl (Ce BK.out 0 _ rfl) hb,Kd.R_below (Kd.R_set HO.out BK.out (by decide) 0 _) hb⟩⟩;clear hg hb hbox HB HO BK cg fg)
      | (go_at_call 16;refine (CR.calls a0 (⟨#[10]⟩:ByteArray) ps _ A1.out).mono ?_;rintro e w2 ⟨v2,rfl,hr2,hb2⟩;have n0_:=Aa.mk (As.inv_below HI.out hb2);have n2_:=Aa.mk (Kd.R_lower hr2 HI.out.1.size);clear HI hr2 hb2;have HI:=n0_;have HP:=n2_;clear n0_ n2_;obtain ⟨Ap,cp,rfl⟩:=Kd.R_slice HP.out;obtain ⟨i9,hi9,_,hsz9,_⟩:=info_parts info9;have hsl:=(KO (P:=Tryz.prog) Value.string ByteArray.empty 36 9 .i64 Tryz.underlying36 hi9 hsz9 Ap cp ps j HJ0.out.1 HJ0.out.2 (Kd.R_reads' HP.out).2.1).1;rw [HLS.out] at hsl;have hp2:=Kd.R_take (m:=j.toNat) HP.out (by have:=HJ0.out.1;have:=HJ0.out.2;omega);rw [HLS.out] at hp2;clear hi9 hsz9 HP;have HP:=Aa.mk hp2;clear hp2;obtain ⟨n9,hn9⟩:∃ n9:Nat,n9=j.toNat:=⟨_,rfl⟩;rw [<- hn9] at HP;have hn9':n9=ls.length:=(Kd.R_reads' HP.out).1;rw [hn9'] at HP;clear hn9 hn9'))
     go_loopg [23] k (λkq v23 w'=>∃ (acc:List UInt8) (l:List Int) (i:Int),v23=.int .i64 i/\Aa (As.l0 kq ls acc l i=some (acc1,l1))/\Aa (kq<=k)/\Aa (As.Inv w g b acc l w')/\Aa (Kd.R Kd.string 9 w' w.heap.size (λ_=>True) (.slice Ap ls.length cp) ls))
     case atStart=>exact ⟨acc0,l0,0,(by first | rfl | (simp;done) | (simp [*];done)),A2,⟨Wn _⟩,HI,HP⟩
     case round=>
      clear A2 HI HP hsl;obtain ⟨acc,l,i,rfl,HA,HK,HI,HP⟩:=hrel
      obtain ⟨wo,rfl⟩:∃ x:World,x=wr:=⟨wr,rfl⟩
      cases gk with
      | zero=>exact absurd HA.out (by simp [As.l0])
      | succ k1=>
       have H:=HA.out;clear HA;rw [As.l0] at H;by_cases d1:i<(ls.length:Int)
       ·rw [if_pos d1] at H;have d1b:decide (i<(ls.length:Int))=true:=Wo d1;by_cases d2:0<=i
        ·rw [if_pos d2] at H;have d2b:decide (0<=i)=true:=Wo d2;obtain ⟨ad,ea,hx⟩:=Kd.at_string (Kd.R_reads' HP.out).2.2 i d2 d1;cases ea;have hlt:=World.block_lt_of_cell? _ _ hx
         obtain ⟨p,hp⟩:∃ x,x=rdOf ByteArray.empty ls i:=⟨_,rfl⟩
         rw [<- hp] at hx H;clear hp;have e1:=eq_true d1;have e2:=eq_true d2;clear d1 d2;by_cases d3:p.size<=4194304
         ·rw [if_pos d3] at H;by_cases d4:acc.length<=1048576
          ·rw [if_pos d4] at H;have D3:=Aa.mk d3;have D4:=Aa.mk d4;clear d3 d4;have hcut:=BE.calls p
           obtain ⟨⟨q1,q2,q3⟩,hq⟩:∃ q,BE.f p=q:=⟨_,rfl⟩
           rw [hq] at H;simp only [hq] at hcut;have HCUT:=Aa.mk hcut;clear hq hcut;by_cases d5:q3=true
           ·rw [if_pos d5] at H;subst d5;obtain ⟨⟨s1,l2⟩,h5,H⟩:=By.mp H;simp only at h5 H;have A5:=Aa.mk h5;clear h5;by_cases d6:s1.size<=4194304
            ·rw [if_pos d6] at H;have D6:=Aa.mk d6;have hz5:(9223372036854775807<s1.size+1)=False:=eq_false (by omega)
             obtain ⟨s2,hs2⟩:∃ s2,s2=s1++(⟨#[10]⟩:ByteArray):=⟨_,rfl⟩
             rw [<- hs2] at H;have HS2:=Aa.mk hs2;have H':=Aa.mk H;clear d6 hs2 H
             go_wp2_with (first
              | (go_at_call 17;refine (HCUT.out _ D3.out).mono ?_;rintro e w5 ⟨rfl,⟨⟨n5,rfl⟩⟩⟩;have n0_:=Aa.mk (As.inv_below HI.out (Ac (WG _ _) n5));have n1_:=Aa.mk (Kd.R_drewN HP.out n5);clear HI HP;have HI:=n0_;have HP:=n1_;clear n0_ n1_;obtain ⟨A7,c7,HG7,HR7⟩:∃ A c,Aa ((wo.drewN n5).heap[g]?=some (.cells #[.slice A l.length c] 32 (0,0)))/\Aa (Kd.R (Kd.int .i64) 3 (wo.drewN n5) w.heap.size (λ_=>True) (.slice A l.length c) l):=(by obtain ⟨_,_,A,c,h1,h2⟩:=HI.out;exact ⟨A,c,⟨h1⟩,⟨h2⟩⟩))
              | (go_at_call 19;refine (Aq.calls k1 w.heap.size g A7 c7 l q1 q2 s1 l2 _ HG7.out HR7.out GE.out (HTAB_.out.below HI.out.1) A5.out).mono ?_;rintro e w6 ⟨rfl,hr6⟩;have n0_:=Aa.mk (As.inv_ruled HI.out GE.out hr6);have n1_:=Aa.mk (As.lines_ruled HI.out HP.out hr6);clear HI HP HG7 HR7 hr6;have HI:=n0_;have HP:=n1_;clear n0_ n1_)
              | (go_at_call 18;rw [<- HS2.out];refine (As.write w.heap.size b acc s2 _ HI.out.2.1 (by have:=D4.out;have:=D6.out;rw [HS2.out,ByteArray.size_append,show (⟨#[10]⟩:ByteArray).size=1 from rfl];omega) HI.out.1.size).mono ?_;rintro e w7 ⟨rfl,hi7,hb7,hk7⟩;have n0_:=Aa.mk (As.inv_wrote HI.out hi7 hb7 hk7);have n1_:=Aa.mk (As.lines_wrote HI.out HP.out hk7);clear HI HP hi7 hb7 hk7;have HI:=n0_;have HP:=n1_;clear n0_ n1_))
             go_roundg k1
             case measure=>have:=HK.out;omega
             case rel=>exact ⟨_,l2,wrap64 (i+1),(by first | rfl | (simp;done) | (simp [*];done)),H',⟨by have:=HK.out;omega⟩,HI,HP⟩
            ·rw [if_neg d6] at H;exact absurd H (by simp)
           ·rw [if_neg d5] at H;replace d5:=WJ.mpr d5;subst d5;obtain ⟨⟨s1,l2⟩,h5,H⟩:=By.mp H;simp only at h5 H;have A5:=Aa.mk h5;clear h5;by_cases d6:s1.size<=4194304
            ·rw [if_pos d6] at H;have D6:=Aa.mk d6;have hz5:(9223372036854775807<s1.size+1)=False:=eq_false (by omega)
             obtain ⟨s2,hs2⟩:∃ s2,s2=s1++(⟨#[10]⟩:ByteArray):=⟨_,rfl⟩
             rw [<- hs2] at H;have HS2:=Aa.mk hs2;have H':=Aa.mk H;clear d6 hs2 H
             go_wp2_with (first
              | (go_at_call 17;refine (HCUT.out _ D3.out).mono ?_;rintro e w5 ⟨rfl,⟨⟨n5,rfl⟩⟩⟩;have n0_:=Aa.mk (As.inv_below HI.out (Ac (WG _ _) n5));have n1_:=Aa.mk (Kd.R_drewN HP.out n5);clear HI HP;have HI:=n0_;have HP:=n1_;clear n0_ n1_;obtain ⟨A7,c7,HG7,HR7⟩:∃ A c,Aa ((wo.drewN n5).heap[g]?=some (.cells #[.slice A l.length c] 32 (0,0)))/\Aa (Kd.R (Kd.int .i64) 3 (wo.drewN n5) w.heap.size (λ_=>True) (.slice A l.length c) l):=(by obtain ⟨_,_,A,c,h1,h2⟩:=HI.out;exact ⟨A,c,⟨h1⟩,⟨h2⟩⟩))
              | (go_at_call 20;refine (AO.calls k1 w.heap.size g A7 c7 l q1 s1 l2 _ HG7.out HR7.out GE.out (HTAB_.out.below HI.out.1) A5.out).mono ?_;rintro e w6 ⟨rfl,hr6⟩;have n0_:=Aa.mk (As.inv_ruled HI.out GE.out hr6);have n1_:=Aa.mk (As.lines_ruled HI.out HP.out hr6);clear HI HP HG7 HR7 hr6;have HI:=n0_;have HP:=n1_;clear n0_ n1_)
              | (go_at_call 18;rw [<- HS2.out];refine (As.write w.heap.size b acc s2 _ HI.out.2.1 (by have:=D4.out;have:=D6.out;rw [HS2.out,ByteArray.size_append,show (⟨#[10]⟩:ByteArray).size=1 from rfl];omega) HI.out.1.size).mono ?_;rintro e w7 ⟨rfl,hi7,hb7,hk7⟩;have n0_:=Aa.mk (As.inv_wrote HI.out hi7 hb7 hk7);have n1_:=Aa.mk (As.lines_wrote HI.out HP.out hk7);clear HI HP hi7 hb7 hk7;have HI:=n0_;have HP:=n1_;clear n0_ n1_))
             go_roundg k1
             case measure=>have:=HK.out;omega
             case rel=>exact ⟨_,l2,wrap64 (i+1),(by first | rfl | (simp;done) | (simp [*];done)),H',⟨by have:=HK.out;omega⟩,HI,HP⟩
            ·rw [if_neg d6] at H;exact absurd H (by simp)
          ·rw [if_neg d4] at H;exact absurd H (by simp)
         ·rw [if_neg d3] at H;exact absurd H (by simp)
        ·rw [if_neg d2] at H;exact absurd H (by simp)
       ·rw [if_neg d1] at H;have d1b:decide (i<(ls.length:Int))=false:=Wp d1;clear d1;simp only [AT,If] at H;obtain ⟨rfl,rfl⟩:=H
        obtain ⟨A7,c7,HG7⟩:∃ A c,Aa (wo.heap[g]?=some (.cells #[.slice A l.length c] 32 (0,0))):=(by obtain ⟨_,_,A,c,h1,h2⟩:=HI.out;exact ⟨A,c,⟨h1⟩⟩)
        have cg:_=some _:=Ak HG7.out 0
        obtain ⟨s2,hs2⟩:∃ s2,s2=((⟨#[115,116,105,99,107,115,32]⟩:ByteArray)++t)++(⟨#[10]⟩:ByteArray):=⟨_,rfl⟩
        have HS2:=Aa.mk hs2;clear hs2
        go_wp2_with (first
         | (go_at_call 21;refine (strconv_Itoa.calls (l.length:Int) t _ A3.out (HTAB_.out.below HI.out.1)).mono ?_;rintro e w8 ⟨rfl,hb8⟩;have n0_:=Aa.mk (As.inv_below HI.out hb8);clear HI hb8;have HI:=n0_;clear n0_)
         | (go_at_call 18;rw [<- HS2.out];refine (As.write w.heap.size b acc s2 _ HI.out.2.1 (by have:=C2.out;have:=C3.out;rw [HS2.out,ByteArray.size_append,ByteArray.size_append,show (⟨#[10]⟩:ByteArray).size=1 from rfl,show (⟨#[115,116,105,99,107,115,32]⟩:ByteArray).size=7 from rfl];omega) HI.out.1.size).mono ?_;rintro e w9 ⟨rfl,hi9,hb9,hk9⟩;have n0_:=Aa.mk (As.inv_wrote HI.out hi9 hb9 hk9);clear HI hi9 hb9 hk9;have HI:=n0_;clear n0_)
         | (go_at_call 22;refine (Go.Proofs.YtlgojeodceiglaaGreatDoor.Shelf.Tryz.Builder_String_any_k w.heap.size b _ _ HI.out.2.1 HI.out.1.size).mono ?_;rintro e w10 ⟨rfl,hi10,hb10,hk10⟩;have HB2:=Aa.mk (HI.out.1.trans hb10);clear HI hi10 hb10 hk10))
        go_ret;exact ⟨(by rw [<- HE.out,HS2.out];rfl),HB2.out⟩
    ·rw [if_neg c3] at h;exact absurd h (by simp)
   ·rw [if_neg c2] at h;exact absurd h (by simp)
  ·rw [if_neg c1] at h;exact absurd h (by simp)

end
section
theorem As.ct {k:Nat} {p0 r0:ByteArray} (h:As.f k p0=some r0):Ct 8 [.s p0] [.s r0]:=by
 refine .mk1 Tryz.func8 rfl rfl λl w ok ht ha=>?_
 match l,ha with
 | [_],⟨rfl,_⟩=>exact (As.calls k p0 r0 w h ht).mono λ_ _ h=>⟨_,h.1,h.2,rfl⟩
def laws_FnExactExecute.f (k:Nat) (a0:ByteArray):Option Bool:=if (a0.size:Int)>1048576 then some true else ((Co.f k a0).bind λw=>(As.f k a0).bind λg=>if g.toList=w.toList then some true else some false)
theorem laws_FnExactExecute.ct {k:Nat} {p0:ByteArray} {r0:Bool}:laws_FnExactExecute.f k p0=some r0->Ct 6 [.s p0] [.b r0]:=by
 refine Ax Tryz.func6 rfl rfl rfl rfl ?_;unfold laws_FnExactExecute.f
 repeat' first
  | with_reducible refine spn λ_=>?_
  | with_reducible refine spt ?_
  | with_reducible refine spf ?_
  | with_reducible refine spc ?_
  | with_reducible refine spe ?_
  | with_reducible refine spd (λ_=>?_) λ_=>?_
  | with_reducible refine spq (λ_=>?_) λ_=>?_
  | with_reducible refine spm (λ_=>?_) λ_=>?_
  | with_reducible refine spi (λ_=>?_) λ_=>?_
  | with_reducible refine sps ?_
  | with_reducible refine spa (by assumption) ?_
  | with_reducible refine spb λ_ _=>?_
  | (with_reducible refine spr ?_;rintro ⟨⟩)
  | intro h
  | refine Go.go ?_
  | refine Si rfl ?_
  | refine RK.call (Co.ct (by assumption)) rfl rfl rfl ?_
  | refine RK.call (As.ct (by assumption)) rfl rfl rfl ?_
  | refine RK.gg rfl rfl ?_
  | refine RK.gx rfl rfl ?_
  | refine RK.pk rfl rfl rfl ?_
  | refine RK.bk rfl rfl ?_
  | refine RK.nil ?_
  | exact (rfl:_=_)
  | fail

end
end Go.Proofs.YtlgojeodceiglaaGreatDoor.PFnExactExecute
