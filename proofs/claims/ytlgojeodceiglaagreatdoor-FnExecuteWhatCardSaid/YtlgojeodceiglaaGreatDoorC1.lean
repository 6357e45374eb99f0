/- Draws: spec.DrawExecute comes to some text; a law's rest when its text is drawn; a text's lines. -/
import Derived.Test.YtlgojeodceiglaaGreatDoorA1
namespace Go.Proofs.YtlgojeodceiglaaGreatDoor.PFnExactExecute
open Go.RowKit Go.Proofs.YtlgojeodceiglaaGreatDoorW.PrintWords Go.Proofs.YtlgojeodceiglaaGreatDoorW.PrintLast Go.Proofs.YtlgojeodceiglaaGreatDoorW.PrintMore
attribute [local go_sem] WO WQ WS WT WM WN WP WR
set_option linter.unusedVariables false
set_option linter.unusedSimpArgs false
set_option maxRecDepth 100000
set_option maxHeartbeats 0
section
def Rd (w0 W:World) (g:Nat) (m:Nat):Prop:=∃ (A:Option Addr) (c:Nat) (l:List Int) (p:Int),W.heap[g]?=some (.cells #[.slice A l.length c,.int .i64 p] 52 (0,0))/\w0.heap.size<=g/\ReadsOf (Value.int .u8) 0 w0 A l.length l/\(∀ x∈l,0<=x/\x<=255)/\l.length<=2000/\0<=p/\p<=m
theorem rd_u8 {b:List Int} (hb:∀ x∈b,0<=x/\x<=255) (i:Int) (h0:0<=i) (h1:i<b.length):0<=rdOf 0 b i/\rdOf 0 b i<=255:=by
 have hl:i.toNat<b.length:=by omega
 unfold rdOf;rw [WI,WH hl];exact hb _ (Wk hl)
theorem xor_i64 (a b:Nat) (ha:a<4611686018427387904) (hb:b<4611686018427387904):Go.bits .xor .i64 (a:Int) (b:Int)=((a ^^^ b:Nat):Int):=by
 have hx:a ^^^ b<2 ^ 62:=Nat.xor_lt_two_pow (by omega) (by omega)
 have h1:(BitVec.ofInt 64 (a:Int)).toNat=a:=by
  rw [BitVec.ofInt_natCast,BitVec.toNat_ofNat];exact Nat.mod_eq_of_lt (by omega)
 have h2:(BitVec.ofInt 64 (b:Int)).toNat=b:=by
  rw [BitVec.ofInt_natCast,BitVec.toNat_ofNat];exact Nat.mod_eq_of_lt (by omega)
 show IntKind.i64.wrap ((BitVec.ofInt 64 (a:Int) ^^^ BitVec.ofInt 64 (b:Int)).toNat:Int)=_;rw [BitVec.toNat_xor,h1,h2];generalize a ^^^ b=c at hx;simp [IntKind.wrap,IntKind.bits,IntKind.signed];omega
theorem tmod_in {x n:Int} (hx:0<=x) (hn:1<=n):0<=Int.tmod x n/\Int.tmod x n<n:=by
 rw [Int.tmod_eq_emod_of_nonneg hx];exact ⟨Int.emod_nonneg _ (by omega),Int.emod_lt_of_pos _ (by omega)⟩
theorem tdiv_in {x n:Int} (hx:0<=x) (hn:1<=n):0<=Int.tdiv x n/\Int.tdiv x n<=x:=by
 rw [Int.tdiv_eq_ediv_of_nonneg hx];exact ⟨Int.ediv_nonneg hx (by omega),Int.ediv_le_self _ hx⟩
theorem pick_ex (g m:Nat) (n:Int) (w0 w:World) (hI:Rd w0 w g m) (hB:Below w0.heap.size w0 w) (hm:m<=100000) (h1:1<=n) (hn:n<=1000) :
  Calls Tryz.prog 13 #[.pointer (some ⟨g,0,none⟩),.int .i64 n] w λe w'=>(∃ v:Int,e=.returned (.int .i64 v)/\0<=v/\v<n)/\Rd w0 w' g (m+1)/\Below w0.heap.size w0 w'/\(∀ k,k<w.heap.size->k≠g->w'.heap[k]?=w.heap[k]?):=by
 obtain ⟨A,c,l,p,hg,hge,hC,hb,hl,hp,hpm⟩:=hI;have hc1:w.cell? ⟨g,1,none⟩=some (.int .i64 p):=Ak hg 1;have hf1:=AD hg 1;have hu52:=Tryz.underlying52;have e1:IntKind.i64.wrap (p+1)=p+1:=by rw [C9];unfold wrap64;omega
 have hg2:(w.setCell ⟨g,1,none⟩ (.int .i64 (p+1))).heap[g]?=some (.cells #[.slice A l.length c,.int .i64 (p+1)] 52 (0,0)):=Iq hg 1 _;have hB2:Below w0.heap.size w0 (w.setCell ⟨g,1,none⟩ (.int .i64 (p+1))):=C6 hB hge;have hK:∀ k,k<w.heap.size->k≠g->(w.setCell ⟨g,1,none⟩ (.int .i64 (p+1))).heap[k]?=w.heap[k]?:=λk _ hk=>Below.heap_setCell w ⟨g,1,none⟩ _ k hk
 have fin:Rd w0 (w.setCell ⟨g,1,none⟩ (.int .i64 (p+1))) g (m+1):=⟨A,c,l,p+1,hg2,hge,hC,hb,hl,by omega,by omega⟩
 go_enter Tryz.func13,Tryz.ntmps13
 go_upto_region 2 with (fail)
 generalize w.setCell ⟨g,1,none⟩ (.int .i64 (p+1))=W at *;have hc0:W.cell? ⟨g,0,none⟩=some (.slice A l.length c):=Ak hg2 0;have hc1:W.cell? ⟨g,1,none⟩=some (.int .i64 (p+1)):=Ak hg2 1;have d1:decide (n<1)=false:=Wp (by omega);have e2:IntKind.i64.wrap (p+1-1)=p:=by rw [C9];unfold wrap64;omega
 by_cases hz:l=[]
 ·subst hz;go_wp2;go_ret;exact ⟨⟨0,rfl,by omega,by omega⟩,fin,hB2,hK⟩
 ·have d2:((l.length:Int)==0)=false:=beq_eq_false_iff_ne.mpr (by have:=List.length_pos_iff.mpr hz;omega);by_cases h:p<(l.length:Int)
  ·have d3:=Wo h;obtain ⟨ad,rfl,hx⟩:=ReadsOf.at_ hC p hp h;replace hx:=F9 hB2 hx;go_wp2;go_ret;have hr:=rd_u8 hb p hp h;rw [show wrap64 (rdOf 0 l p)=rdOf 0 l p by unfold wrap64;omega];exact ⟨⟨_,rfl,tmod_in hr.1 h1⟩,fin,hB2,hK⟩
  ·have d3:=Wp h;have hlen:(1:Int)<=l.length:=by have:=List.length_pos_iff.mpr hz;omega
   have q1:=tmod_in hp hlen;obtain ⟨ad,rfl,hx⟩:=ReadsOf.at_ hC _ q1.1 q1.2;replace hx:=F9 hB2 hx;have q2:=tmod_in (show (0:Int)<=p*7+3 by omega) hlen;obtain ⟨ad2,e,hy⟩:=ReadsOf.at_ hC _ q2.1 q2.2;cases e;replace hy:=F9 hB2 hy;have r1:=rd_u8 hb _ q1.1 q1.2;have r2:=rd_u8 hb _ q2.1 q2.2;have q3:=tdiv_in hp hlen;have p1:=eq_true q1.1;have p2:=eq_true q1.2;have p3:=eq_true q2.1;have p4:=eq_true q2.2;have e7:IntKind.i64.wrap (p*7)=p*7:=by rw [C9];unfold wrap64;omega
   have e8:IntKind.i64.wrap (p*7+3)=p*7+3:=by rw [C9];unfold wrap64;omega
   go_wp2
   go_quiet (fail)
   go_wp2;go_ret;refine ⟨⟨_,rfl,?_⟩,fin,Ac hB2 _,hK⟩;rw [Int.tmod_eq_emod_of_nonneg hp] at r1;rw [Int.tmod_eq_emod_of_nonneg (by omega)] at r2;generalize rdOf 0 l (p % l.length)=x1 at r1;generalize rdOf 0 l ((p*7+3) % l.length)=x2 at r2;generalize Int.tdiv p l.length=x3 at q3;have ex:wrap64 (wrap64 (wrap64 (wrap64 (wrap64 x1*131)+wrap64 (wrap64 x2*1117))+p*29)+x3*53)=x1*131+x2*1117+p*29+x3*53:=by unfold wrap64;omega
   rw [ex]
   obtain ⟨X,hX⟩:∃ X:Nat,x1*131+x2*1117+p*29+x3*53=X:=⟨(x1*131+x2*1117+p*29+x3*53).toNat,by omega⟩
   rw [hX];have q4:=tdiv_in (show (0:Int)<=(X:Int) by omega) (show (1:Int)<=64 by omega);rw [show wrap64 (Int.tdiv X 64)=Int.tdiv X 64 by unfold wrap64;omega]
   obtain ⟨Y,hY⟩:∃ Y:Nat,Int.tdiv X 64=Y:=⟨(Int.tdiv X 64).toNat,by omega⟩
   rw [hY,xor_i64 X Y (by omega) (by omega)];exact tmod_in (by omega) h1
def strOk:Value->Bool
 | .string s=>decide (s.size<=16)
 | _=>false
theorem of_ex (g m:Nat) (cs:Array Value) (w0 u:World) (hI:Rd w0 u g m) (hB:Below w0.heap.size w0 u) (hm:m<=100000) (n:Nat) (hn:cs.size=n) (h1:1<=n) (h2:n<=1000) (hs:cs.all strOk=true) :
  Calls Tryz.prog 25 #[.pointer (some ⟨g,0,none⟩),.slice (some ⟨u.heap.size,0,none⟩) n n] (u.alloc (.cells cs 9 (0,0))) λe w'=>(∃ s:ByteArray,e=.returned (.string s)/\s.size<=16)/\Rd w0 w' g (m+1)/\Below w0.heap.size w0 w':=by
 have hbg:u.heap.size≠g:=by
  obtain ⟨A,c,l,p,hg,_⟩:=hI;have:=Dp hg;omega
 replace hI:Rd w0 (u.alloc (.cells cs 9 (0,0))) g m:=by
  obtain ⟨A,c,l,p,hg,h⟩:=hI;exact ⟨A,c,l,p,B3 hg _,h⟩
 replace hB:=Ad hB (.cells cs 9 (0,0));have hb:(u.alloc (.cells cs 9 (0,0))).heap[u.heap.size]?=some (.cells cs 9 (0,0)):=heap_alloc_new _ _;generalize u.alloc (.cells cs 9 (0,0))=w at *;generalize u.heap.size=b at *;go_enter Tryz.func25,Tryz.ntmps25
 go_wp2_with (
  go_at_call 13;refine (pick_ex g m n w0 _ hI hB hm (by omega) (by omega)).mono ?_;rintro e w1 ⟨⟨v,rfl,h0,h3⟩,hI1,hB1,hK1⟩
  obtain ⟨i,rfl⟩:∃ i:Nat,v=i:=⟨v.toNat,by omega⟩
  have hi:i<cs.size:=by omega
  obtain ⟨s,hv,h16⟩:∃ s,cs[i]=.string s/\s.size<=16:=by
   have:=Array.all_eq_true.mp hs i hi;revert this;cases cs[i]<;>simp [strOk]
  have p0:=eq_true h0;have p1:=eq_true h3
  have hc:w1.cell? ⟨b,i,none⟩=some (.string s):=by
   rw [Ak ((hK1 b (Dp hb) hbg).trans hb),Array.getElem?_eq_getElem hi,hv])
 go_ret;exact ⟨⟨s,rfl,h16⟩,hI1,hB1⟩
theorem open_ex (A:Option Addr) (c:Nat) (l:List Int) (w:World) (hC:ReadsOf (Value.int .u8) 0 w A l.length l) (hc:l.length<=c) (hb:∀ x∈l,0<=x/\x<=255) :
  Calls Tryz.prog 12 #[.slice A l.length c] w λe w'=>∃ g:Nat,e=.returned (.pointer (some ⟨g,0,none⟩))/\Rd w w' g 0/\Below w.heap.size w w':=by
 have hu52:=Tryz.underlying52;by_cases h:(l.length:Int)>2000
 ·have d1:decide (2000<(l.length:Int))=true:=Wo h;have d2:decide (2000<l.length)=true:=Wo (by omega);obtain ⟨i0,hi,_,hsz,_⟩:=info_parts info5;obtain ⟨hcut,hA,hC2⟩:=KO (P:=Tryz.prog) (Value.int .u8) 0 22 5 .i64 Tryz.underlying22 hi hsz A c l 2000 (by omega) (by omega) hc;have hR:=hA _ hC;go_enter Tryz.func12,Tryz.ntmps12;go_wp2;go_ret;exact ⟨_,rfl,⟨A,c,l.take 2000,0,by rw [IT];exact heap_alloc_new _ _,Wn _,hR,λx hx=>hb x (List.mem_of_mem_take hx),by rw [IT];omega,by omega,by omega⟩,Ad (WG _ _) _⟩
 ·have d1:decide (2000<(l.length:Int))=false:=Wp h;have d2:decide (2000<l.length)=false:=Wp (by omega);go_enter Tryz.func12,Tryz.ntmps12;go_wp2;go_ret;exact ⟨_,rfl,⟨A,c,l,0,heap_alloc_new _ _,Wn _,hC,hb,by omega,by omega,by omega⟩,Ad (WG _ _) _⟩
theorem Rd.le {w0 W:World} {g m m':Nat} (h:Rd w0 W g m) (hm:m<=m'):Rd w0 W g m':=by
 obtain ⟨A,c,l,p,h1,h2,h3,h4,h5,h6,h7⟩:=h;exact ⟨A,c,l,p,h1,h2,h3,h4,h5,h6,by omega⟩
theorem line_ex (g m:Nat) (w0 w:World) (hI:Rd w0 w g m) (hB:Below w0.heap.size w0 w) (hm:m<=90000) :
  Calls Tryz.prog 14 #[.pointer (some ⟨g,0,none⟩)] w λe w'=>(∃ s:ByteArray,e=.returned (.string s)/\s.size<=40)/\Rd w0 w' g (m+3)/\Below w0.heap.size w0 w':=by
 go_enter Tryz.func14,Tryz.ntmps14
 go_upto_region 2 with (
  go_at_call 13;refine (pick_ex g m 13 w0 _ hI hB (by omega) (by omega) (by omega)).mono ?_
  rintro e w1 ⟨⟨v,rfl,h0,h3⟩,hI1,hB1,hK1⟩)
 clear hI hB hK1 w;have hv:v=0\/v=1\/v=2\/v=3\/v=4\/v=5\/v=6\/v=7\/v=8\/v=9\/v=10\/v=11\/v=12:=by omega
 clear h0 h3;rcases hv with rfl | rfl | rfl | rfl | rfl | rfl | rfl | rfl | rfl | rfl | rfl | rfl | rfl
 all_goals
  go_wp2_with (
   go_at_call 25;refine (of_ex g _ _ w0 _ (by assumption) (by assumption) (by omega) _ (by rfl) (by decide) (by decide) (by kernel_rfl)).mono ?_
   rintro e w1 ⟨⟨s,rfl,hs⟩,hI1,hB1⟩)
  go_ret;exact ⟨⟨_,rfl,by first | omega | (rw [ByteArray.size_append];first | omega | (show 4+_<=40;omega))⟩,hI1.le (by omega),hB1⟩
theorem many_ex (w:World):Calls Tryz.prog 15 #[.string ⟨#[115,104,111,119,10]⟩,.int .i64 130] w λe w'=>(∃ s:ByteArray,e=.returned (.string s)/\s.size<=1000)/\Below w.heap.size w w':=by
 go_enter Tryz.func15,Tryz.ntmps15;go_wp2;refine wp_loop_rounds 9 ?_
 repeat any_goals (rw [rounds_succ];go_wp2)
 go_ret;exact ⟨⟨_,rfl,by decide +kernel⟩,WG _ _⟩
theorem draw_ex (A:Option Addr) (c:Nat) (l:List Int) (w:World) (hC:ReadsOf (Value.int .u8) 0 w A l.length l) (hc:l.length<=c) (hb:∀ x∈l,0<=x/\x<=255) :
  Calls Tryz.prog 7 #[.slice A l.length c] w λe w'=>(∃ s:ByteArray,e=.returned (.string s)/\s.size<=9000)/\Below w.heap.size w w':=by
 go_enter Tryz.func7,Tryz.ntmps7
 go_wp2_with (first
  | (go_at_call 12;refine (open_ex A c l _ hC hc hb).mono ?_;rintro e w1 ⟨g,rfl,hI,hB⟩)
  | (go_at_call 13;refine (pick_ex g 0 12 w _ hI hB (by omega) (by omega) (by omega)).mono ?_;rintro e w1 ⟨⟨n,rfl,h0,h1⟩,hI,hB,-⟩))
 go_loopg [4,6] 20 (λd v4 v6 w'=>∃ (s:ByteArray) (i:Nat),v4=.string s/\v6=.int .i64 (i:Int)/\Aa (i+d=20/\(i:Int)<=n/\s.size<=41*i)/\Aa (Rd w w' g (3*i+1))/\Aa (Below w.heap.size w w'))
 case atStart=>exact ⟨_,0,rfl,rfl,⟨rfl,h0,by decide⟩,⟨hI⟩,⟨hB⟩⟩
 case round=>
  clear hI hB;obtain ⟨s,i,rfl,rfl,H,HI,HB⟩:=hrel;obtain ⟨k1,k2,k3⟩:=H.out;have hI:=HI.out;have hB:=HB.out;clear H HI HB;by_cases hn:(i:Int)<n
  ·have d1:=Wo hn
   go_wp2_with (go_at_call 14;refine (line_ex g _ w _ hI hB (by omega)).mono ?_;rintro e w1 ⟨⟨t,rfl,ht⟩,hI,hB⟩)
   go_roundg (19-i)
   case measure=>omega
   case rel=>exact ⟨_,i+1,rfl,rfl,⟨by omega,by omega,by rw [ByteArray.size_append,ByteArray.size_append];show _+_+1<=_;omega⟩,⟨hI⟩,⟨hB⟩⟩
  ·have d1:=Wp hn
   go_upto_region 9 with (go_at_call 13;refine (pick_ex g _ 24 w _ hI hB (by omega) (by omega) (by omega)).mono ?_;rintro e w1 ⟨⟨v,rfl,h0,h1⟩,hI,hB,-⟩)
   by_cases e0:v=0
   ·subst e0;go_wp2;go_ret;exact ⟨⟨_,rfl,by rw [ByteArray.size_append];show _+4<=_;omega⟩,hB⟩
   ·by_cases e1:v=1
    ·subst e1
     go_wp2_with (go_at_call 15;refine (many_ex _).mono ?_;rintro e w2 ⟨⟨t,rfl,ht⟩,hB2⟩)
     go_ret;exact ⟨⟨_,rfl,by rw [ByteArray.size_append];omega⟩,Bt hB hB2⟩
    ·have d2:(v==0)=false:=beq_eq_false_iff_ne.mpr e0;have d3:(v==1)=false:=beq_eq_false_iff_ne.mpr e1;go_wp2;go_ret;exact ⟨⟨_,rfl,by omega⟩,hB⟩
theorem row_ex {w:World} {a:Option Addr} {len cap:Nat} {zs:List Int} (h:(a=none/\len=0/\cap=0/\zs=[])\/∃ x,a=some x/\len<=cap/\cap<=maxLen/\zs.length=cap/\(∀ i,i<zs.length->w.cell? (x.add i)=some (.int .u8 (zs.getD i 0)))/\∀ n∈zs,(Lit.int .u8 n).wf=true) :
  ∃ l:List Int,len=l.length/\ReadsOf (Value.int .u8) 0 w a l.length l/\(∀ x∈l,0<=x/\x<=255)/\l.length<=cap:=by
 rcases h with ⟨rfl,rfl,rfl,rfl⟩ | ⟨x,rfl,hl,hm,hz,hc,hw⟩
 ·exact ⟨[],rfl,⟨rfl,WC _,λh=>absurd h (by decide)⟩,λx hx=>by simp at hx,Wn _⟩
 ·have e:(zs.take len).length=len:=by simp;omega
  have hm':len<=maxLen:=WA hl hm;refine ⟨zs.take len,e.symm,⟨rfl,by rw [e];simpa [maxLen] using hm',λ_=>⟨x,rfl,λj hj=>?_⟩⟩,λy hy=>?_,by rw [e];exact hl⟩
  ·rw [e] at hj;rw [hc j (by omega)];simp [rdOf,List.getD,List.getElem?_take,hj]
  ·have:=hw y (List.mem_of_mem_take hy);simp [Lit.wf,IntKind.min,IntKind.max,IntKind.bits,IntKind.signed] at this;omega
theorem law_rest {fn:Func} {c:Code} {j:Nat} {s:ByteArray} {w w1:World} {tmps:Array Value} (ht:TabW w) (hB:Below w.heap.size w w1) (hj:tmps.getD j undef=.string s) (hs:tmps.size=fn.ntmps)
  (h:awp fn.ntmps c (retQ fn.results.toList [.b true]) [(j,.v (.s s))]):c.wp Tryz.prog (bodyPost Tryz.prog fn λe w'=>e=.returned (.bool true)/\Below w.heap.size w w') { tmps:=tmps,defers:=[] } w1:=by
 have hG:HG w1.heap.size (λk=>False\/w1.heap.size<=k) w1:=⟨λk h=>.inr h,λw' hb=>(ht.below hB).below hb⟩
 have R:RS w1.heap.size (λk=>False\/w1.heap.size<=k) w1 fn.ntmps [(j,.v (.s s))] { tmps:=tmps,defers:=[] } w1:=by
  refine ⟨⟨λ_=>none,⟨λi j k h=>(by cases h),λi k h=>(by cases h),λi x hx=>?_⟩⟩,hs,rfl,WG _ _,Wn _⟩;rw [Bm] at hx;split at hx
  ·rename_i hi;subst hi;cases hx;exact hj
  ·cases hx
 refine Ql hG c h R λe a w' hl=>?_
 have go:∀ {σ'},retL σ' fn.results.toList [.b true]->RS w1.heap.size (λk=>False\/w1.heap.size<=k) w1 fn.ntmps σ' a w'->a.defers=[]/\∃ v,(results fn a.tmps).run Tryz.prog w'=.ok v w'/\Ending.returned v=.returned (.bool true)/\Below w.heap.size w w':=λh1 R'=>by
  obtain ⟨v,k1,k2⟩:=L7 (ok:=λ_=>False) R' h1;obtain rfl:v=.bool true:=k2;exact ⟨R'.defers,_,k1,rfl,Bt hB R'.below⟩
 cases e with
 | normal=>obtain ⟨σ',h1,R'⟩:=hl;exact go h1 R'
 | ret=>obtain ⟨σ',h1,R'⟩:=hl;exact go h1 R'
 | panic _=>exact hl.elim
 | outgrown=>exact hl.elim
 | _=>obtain ⟨σ',h1,R'⟩:=hl;exact h1.elim
def laws_complete.l0:Nat->ByteArray->Int->Option ByteArray
 | 0,_,_=>none
 | k+1,s,i=>if i>0 then (if 0<=wrap64 (i-1) then (if wrap64 (i-1)<(s.size:Int) then (if bt s (wrap64 (i-1))=10 then (if 0<=i then (if i<=(s.size:Int) then some (s.extract 0 i.toNat) else none) else none) else laws_complete.l0 k s (wrap64 (i-1))) else none) else none) else some ⟨#[]⟩
def laws_complete.f (k:Nat) (s:ByteArray):Option ByteArray:=laws_complete.l0 k s (s.size:Int)
theorem laws_complete.ct {k:Nat} {p0 r0:ByteArray}:laws_complete.f k p0=some r0->Ct 10 [.s p0] [.s r0]:=by
 refine Ax Tryz.func10 rfl rfl rfl rfl ?_;unfold laws_complete.f
 repeat' first
  | refine stp ?_
  | (with_reducible refine spr ?_;rintro ⟨⟩)
  | with_reducible refine And.intro ?_ ?_
  | intro h
  | refine rks ?_
  | exact (rfl:_=_)
  | (refine BA (λn σ=>∃ x0 x3,σ=[(0,.v (.s x0)),(3,.v (.i x3))]/\laws_complete.l0 n x0 x3=some r0) _ _ ⟨_,_,rfl,by first | with_reducible exact h | exact h⟩ ⟨⟨rfl,rfl,trivial⟩,rfl⟩ ?_;rintro (_ | _) _ _ ⟨x0,x3,rfl,h⟩;cases h;simp only [laws_complete.l0] at h;revert h)
  | (refine Bz _ _ ⟨_,_,rfl,by first | with_reducible exact h | exact h⟩ ⟨⟨rfl,rfl,trivial⟩,rfl⟩ ?_;omega)
  | fail
def laws_lastLine.l0:Nat->ByteArray->Int->Option ByteArray
 | 0,_,_=>none
 | k+1,s,i=>if i>=0 then (if i<(s.size:Int) then (if bt s i=10 then (if 0<=wrap64 (i+1) then (if wrap64 (i+1)<=(s.size:Int) then some (s.extract (wrap64 (i+1)).toNat s.size) else none) else none) else laws_lastLine.l0 k s (wrap64 (i-1))) else none) else some s
def laws_lastLine.f (k:Nat) (s:ByteArray):Option ByteArray:=laws_lastLine.l0 k s (wrap64 ((s.size:Int)-2))
theorem laws_lastLine.ct {k:Nat} {p0 r0:ByteArray}:laws_lastLine.f k p0=some r0->Ct 11 [.s p0] [.s r0]:=by
 refine Ax Tryz.func11 rfl rfl rfl rfl ?_;unfold laws_lastLine.f
 repeat' first
  | refine stp ?_
  | (with_reducible refine spr ?_;rintro ⟨⟩)
  | with_reducible refine And.intro ?_ ?_
  | intro h
  | refine rks ?_
  | exact (rfl:_=_)
  | (refine BA (λn σ=>∃ x0 x3,σ=[(0,.v (.s x0)),(3,.v (.i x3))]/\laws_lastLine.l0 n x0 x3=some r0) _ _ ⟨_,_,rfl,by first | with_reducible exact h | exact h⟩ ⟨⟨rfl,rfl,trivial⟩,rfl⟩ ?_;rintro (_ | _) _ _ ⟨x0,x3,rfl,h⟩;cases h;simp only [laws_lastLine.l0] at h;revert h)
  | (refine Bz _ _ ⟨_,_,rfl,by first | with_reducible exact h | exact h⟩ ⟨⟨rfl,rfl,trivial⟩,rfl⟩ ?_;omega)
  | fail
end

end Go.Proofs.YtlgojeodceiglaaGreatDoor.PFnExactExecute
