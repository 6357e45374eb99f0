/- Execute: a part of what is shown of the program's Execute and the reference's. -/
import Derived.Test.YtlgojeodceiglaaGreatDoorA4
namespace Go.Proofs.YtlgojeodceiglaaGreatDoor.PFnExactExecute
open Go.RowKit Go.Proofs.YtlgojeodceiglaaGreatDoorW.PrintWords Go.Proofs.YtlgojeodceiglaaGreatDoorW.PrintLast Go.Proofs.YtlgojeodceiglaaGreatDoorW.PrintMore
attribute [local go_sem] WO WQ WS WT WM WN WP WR
set_option linter.unusedVariables false
set_option linter.unusedSimpArgs false
set_option maxRecDepth 100000
set_option maxHeartbeats 0
section
theorem Ct.go {f:Nat} {ins res:List BV} (h:Ct f ins res) (l:List Value) (w:World) (ht:TabW w) (ok:Nat->Prop) (hs:l.length=ins.length) (ha:∀ (k:Nat) (x:BV) (u:Value),ins[k]?=some x->l[k]?=some u->cvr ok w x u) :
  Calls Tryz.prog f l.toArray w λe w'=>Below w.heap.size w w'/\∃ v,e=.returned v/\crvs ok w.heap.size w' res v:=h.run l.toArray w ok ht (by simpa using hs) λk x u h1 h2=>ha k x u h1 (by simpa using h2)
theorem OW {ok:Nat->Prop} {b:Nat} {w':World} {x y:BV} {v:Value} (h:crvs ok b w' [x,y] v):∃ u1 u2,v=.tuple #[u1,u2]/\crv ok b w' x u1/\crv ok b w' y u2:=by
 obtain ⟨arr,rfl,h1,h2⟩:=h;obtain ⟨u1,e1,k1⟩:=h2 0 x rfl;obtain ⟨u2,e2,k2⟩:=h2 1 y rfl;refine ⟨u1,u2,?_,k1,k2⟩
 have:arr=#[u1,u2]:=by
  apply Array.ext';apply List.ext_getElem?;intro i;rcases i with _ | _ | i
  ·simpa using e1
  ·simpa using e2
  ·rw [List.getElem?_eq_none (by simp [h1]),List.getElem?_eq_none (by simp)]
 rw [this]
theorem heapT (τ:Ty):Kd.Heap τ.d:=by
 cases τ with
 | i=>exact Kd.heap_int _
 | b=>exact Kd.heap_bool
 | y=>exact Kd.heap_int _
 | s=>exact Kd.heap_string
 | l=>exact Kd.heap_slice 3 (Kd.heap_int _)
theorem P8 {τ:Ty} {w:World} {A:Option Addr} {c:Nat} {xs:List τ.A} (h:τ.d.C w A xs.length xs) (hc:xs.length<=c):cvr (λ_=>True) w (.f τ xs) (.slice A xs.length c):=⟨A,c,rfl,hc,Kd.F_mono (Kd.C_F (heapT τ) h) λ_ _=>trivial⟩
theorem CD.calls (k:Nat) (a0 r1:ByteArray) (r2:Bool) (w:World) (h:CD.f k a0=some (r1,r2)) (ht:TabW w):Calls Tryz.prog 30 #[.string a0] w λe w'=>e=.returned (.tuple #[.string r1,.bool r2])/\Below w.heap.size w w':=by
 refine ((CD.ct h).go [.string a0] w ht (λ_=>True) rfl λk x u h1 h2=>?_).mono λe w' ⟨h1,v,h2,h3⟩=>?_
 ·rcases k with _ | k
  ·cases h1;cases h2;rfl
  ·simp at h1
 ·obtain ⟨u1,u2,rfl,rfl,rfl⟩:=OW h3;exact ⟨h2,h1⟩
theorem AZ.calls (k:Nat) (A0:Option Addr) (c0:Nat) (l0:List Int) (A1:Option Addr) (c1:Nat) (l1:List Int) (a2:Int) (r:Bool) (w:World) (hr0:Kd.C (Kd.int .i64) w A0 l0.length l0) (hc0:l0.length<=c0) (hr1:Kd.C (Kd.int .i64) w A1 l1.length l1) (hc1:l1.length<=c1) (h:AZ.f k l0 l1 a2=some r) (ht:TabW w) :
  Calls Tryz.prog 188 #[.slice A0 l0.length c0,.slice A1 l1.length c1,.int .i64 a2] w λe w'=>e=.returned (.bool r)/\Below w.heap.size w w':=by
 refine ((AZ.ct h).go [.slice A0 l0.length c0,.slice A1 l1.length c1,.int .i64 a2] w ht (λ_=>True) rfl λk x u h1 h2=>?_).mono λe w' ⟨h1,v,h2,h3⟩=>?_
 ·rcases k with _ | _ | _ | k
  ·cases h1;cases h2;exact P8 (τ:=.i) hr0 hc0
  ·cases h1;cases h2;exact P8 (τ:=.i) hr1 hc1
  ·cases h1;cases h2;rfl
  ·simp at h1
 ·obtain rfl:v=.bool r:=h3;exact ⟨h2,h1⟩

end
section
theorem Be.calls {S:Type} (step:S->Int->Int->Int->Option S) (K:Nat) (fn:Func) (hK:Tryz.prog.funcs[K]?=some fn) (hKn:(fn.name== "runtime.NumGoroutine")=false) (hKb:fn.body.isSome=true) (caps:Array Value) (R:S->World->Prop)
  (k:Nat) (A0:Option Addr) (c0:Nat) (a:List Int) (s0 s1:S) (w:World)
  (htell:∀ s s' x y z w1,R s w1->step s x y z=some s'->Calls Tryz.prog K (#[.int .i64 x,.int .i64 y,.int .i64 z]++caps) w1 λe w2=>e=.returned (.tuple #[])/\R s' w2)
  (hs:R s0 w) (h:Be.f step k a s0=some s1) :
  Calls Tryz.prog 106 #[.slice A0 a.length c0,.func (.func K) #[] caps] w λe w'=>e=.returned (.tuple #[])/\R s1 w':=by
 have H:Be.lx step k a 0 s0=some s1:=h;have HH:=Aa.mk H;have HT:=Aa.mk htell;have HKn:=Aa.mk (And.intro hK (And.intro hKn hKb));have HS:=Aa.mk hs;clear h H htell hK hKn hKb hs;go_enter Tryz.func106,Tryz.ntmps106;go_wp2
 go_loopg [9] k (λkq v9 w'=>∃ (x:Int) (s:S),v9=.int .i64 x/\Aa (Be.lx step kq a x s=some s1)/\Aa (kq<=k)/\Aa (R s w'))
 case atStart=>exact ⟨0,s0,rfl,HH,⟨Wn _⟩,HS⟩
 case round=>
  clear HH HS;obtain ⟨x,s,rfl,HA,HK,HR⟩:=hrel
  cases gk with
  | zero=>exact absurd HA.out (by simp [Be.lx])
  | succ k1=>
   have H:=HA.out;clear HA;simp only [Be.lx] at H;by_cases c1:x<(a.length:Int)
   ·rw [if_pos c1] at H;have c1b:decide (x<(a.length:Int))=true:=Wo c1;obtain ⟨s2,h2,H⟩:=By.mp H;have H2:=Aa.mk h2;have H':=Aa.mk H;clear c1 h2 H;go_wp2
    go_loopg [5] k1 (λkq v5 w'=>∃ (y:Int) (s:S),v5=.int .i64 y/\Aa (Be.ly step kq a x y s=some s2)/\Aa (kq<=k1)/\Aa (R s w'))
    case atStart=>exact ⟨wrap64 (x+1),s,(by first | rfl | (simp;done) | (simp [*];done)),H2,⟨Wn _⟩,HR⟩
    case round=>
     clear H2 HR;obtain ⟨y,s,rfl,HA,HK2,HR⟩:=hrel
     cases gk with
     | zero=>exact absurd HA.out (by simp [Be.ly])
     | succ k2=>
      have H:=HA.out;clear HA;simp only [Be.ly] at H;by_cases c2:y<(a.length:Int)
      ·rw [if_pos c2] at H;have c2b:decide (y<(a.length:Int))=true:=Wo c2;obtain ⟨s3,h3,H⟩:=By.mp H;have H3:=Aa.mk h3;have H2':=Aa.mk H;clear c2 h3 H;go_wp2
       go_loopg [6] k2 (λkq v6 w'=>∃ (z:Int) (s:S),v6=.int .i64 z/\Aa (Be.lz step kq a x y z s=some s3)/\Aa (kq<=k2)/\Aa (R s w'))
       case atStart=>exact ⟨wrap64 (y+1),s,(by first | rfl | (simp;done) | (simp [*];done)),H3,⟨Wn _⟩,HR⟩
       case round=>
        clear H3 HR;obtain ⟨z,s,rfl,HA,HK3,HR⟩:=hrel
        cases gk with
        | zero=>exact absurd HA.out (by simp [Be.lz])
        | succ k3=>
         have H:=HA.out;clear HA;simp only [Be.lz] at H;by_cases c3:z<(a.length:Int)
         ·rw [if_pos c3] at H;have c3b:decide (z<(a.length:Int))=true:=Wo c3;obtain ⟨s4,h4,H⟩:=By.mp H;have H4:=Aa.mk h4;have H3':=Aa.mk H;clear c3 h4 H;go_wp2;rw [Hb HKn.out.1 HKn.out.2.1 HKn.out.2.2,Oper.upon_enter];refine (HT.out s s4 x y z wr HR.out H4.out).mono ?_;rintro e w2 ⟨rfl,hs2⟩;have HR2:=Aa.mk hs2;clear hs2;go_wp2
          go_roundg k3
          case measure=>omega
          case rel=>exact ⟨wrap64 (z+1),s4,(by first | rfl | (simp;done) | (simp [*];done)),H3',⟨by have:=HK3.out;omega⟩,HR2⟩
         ·rw [if_neg c3] at H;have c3b:decide (z<(a.length:Int))=false:=Wp c3;obtain rfl:=AS H;clear c3 H;go_wp2
          go_roundg k2
          case measure=>omega
          case rel=>exact ⟨wrap64 (y+1),s,(by first | rfl | (simp;done) | (simp [*];done)),H2',⟨by have:=HK2.out;omega⟩,HR⟩
      ·rw [if_neg c2] at H;have c2b:decide (y<(a.length:Int))=false:=Wp c2;obtain rfl:=AS H;clear c2 H;go_wp2
       go_roundg k1
       case measure=>omega
       case rel=>exact ⟨wrap64 (x+1),s,(by first | rfl | (simp;done) | (simp [*];done)),H',⟨by have:=HK.out;omega⟩,HR⟩
   ·rw [if_neg c1] at H;have c1b:decide (x<(a.length:Int))=false:=Wp c1;obtain rfl:=AS H;clear c1 H;go_wp2;go_end0;exact ⟨rfl,HR.out⟩
theorem AQ.heap_new {W:World} {o:Obj} {g:Nat} (h:g=W.heap.size):(W.alloc o).heap[g]?=some o:=by
 subst h;exact heap_alloc_new W o
def AQ.R (A0:Option Addr) (n0 c0 ga gm:Nat) (w0:World) (s:Int) (w1:World):Prop:=w1.heap[gm]?=some (.cells #[.int .i64 s] 3 (0,0))/\w1.heap[ga]?=some (.cells #[.slice A0 n0 c0] 32 (0,0))/\Below w0.heap.size w0 w1
theorem AQ.tell (l0:List Int) (A0:Option Addr) (c0 ga gm:Nat) (w0:World) (s s' x y z:Int) (w1:World) (hr0:∀ w',Below w0.heap.size w0 w'->Kd.C (Kd.int .i64) w' A0 l0.length l0) (hg:w0.heap.size<=gm) (hR:AQ.R A0 l0.length c0 ga gm w0 s w1) (h:AQ.step l0 s x y z=some s') :
  Calls Tryz.prog 107 (#[.int .i64 x,.int .i64 y,.int .i64 z]++#[.pointer (some ⟨ga,0,none⟩),.pointer (some ⟨gm,0,none⟩)]) w1 λe w2=>e=.returned (.tuple #[])/\AQ.R A0 l0.length c0 ga gm w0 s' w2:=by
 show Calls Tryz.prog 107 #[.int .i64 x,.int .i64 y,.int .i64 z,.pointer (some ⟨ga,0,none⟩),.pointer (some ⟨gm,0,none⟩)] w1 _;obtain ⟨hR1,hR3,hR2⟩:=hR;have hc:=hr0 w1 hR2;have HR1:=Aa.mk hR1;have HR2:=Aa.mk hR2;have HR3:=Aa.mk hR3;have HG:=Aa.mk hg;have hne:ga≠gm:=Gl hR3 hR1 (by decide);have HN:=Aa.mk hne;have c0_:_=some _:=Ak hR1 0;have c1_:_=some _:=Ak hR3 0;have f0_:=AD hR1 0;unfold AQ.step at h;by_cases x0:0<=x
 ·rw [if_pos x0] at h;by_cases x1:x<(l0.length:Int)
  ·rw [if_pos x1] at h;by_cases y0:0<=y
   ·rw [if_pos y0] at h;by_cases y1:y<(l0.length:Int)
    ·rw [if_pos y1] at h;by_cases z0:0<=z
     ·rw [if_pos z0] at h;by_cases z1:z<(l0.length:Int)
      ·rw [if_pos z1] at h;obtain ⟨ad,e1,hx⟩:=Kd.at_int hc x x0 x1;subst e1;obtain ⟨ad2,e2,hy⟩:=Kd.at_int hc y y0 y1;obtain rfl:ad=ad2:=by injection e2
       obtain ⟨ad3,e3,hz⟩:=Kd.at_int hc z z0 z1;obtain rfl:ad=ad3:=by injection e3
       have px0:=eq_true x0;have px1:=eq_true x1;have py0:=eq_true y0;have py1:=eq_true y1;have pz0:=eq_true z0;have pz1:=eq_true z1
       obtain ⟨p,hp⟩:∃ p:Int,wrap64 (rd l0 x+rd l0 y)=p:=⟨_,rfl⟩
       rw [hp] at h;have hpw:IntKind.i64.wrap (rd l0 x+rd l0 y)=p:=(C9 _).trans hp;clear x0 x1 y0 y1 z0 z1 e2 e3 hc hr0 hR1 hR2 hR3 hg hne;by_cases hc:rd l0 z<p
       ·rw [if_pos hc] at h;have hcb:decide (rd l0 z<p)=true:=Wo hc
        obtain ⟨q,hq⟩:∃ q:Int,wrap64 (s+1)=q:=⟨_,rfl⟩
        rw [hq] at h;have hqw:IntKind.i64.wrap (s+1)=q:=(C9 _).trans hq;obtain rfl:=AS h;clear h hc hp hq;go_enter Tryz.func107,Tryz.ntmps107;go_wp2
        go_quiet (fail)
        go_wp2;go_end0;exact ⟨rfl,Ce (BH HR1.out _) 0 _ rfl,E5 (BH HR3.out _) HN.out _,(Ac HR2.out _).setCell HG.out _⟩
       ·rw [if_neg hc] at h;have hcb:decide (rd l0 z<p)=false:=Wp hc;obtain rfl:=AS h;clear h hc hp;go_enter Tryz.func107,Tryz.ntmps107;go_wp2
        go_quiet (fail)
        go_wp2;go_end0;exact ⟨rfl,BH HR1.out _,BH HR3.out _,Ac HR2.out _⟩
      ·rw [if_neg z1] at h;exact absurd h (by simp)
     ·rw [if_neg z0] at h;exact absurd h (by simp)
    ·rw [if_neg y1] at h;exact absurd h (by simp)
   ·rw [if_neg y0] at h;exact absurd h (by simp)
  ·rw [if_neg x1] at h;exact absurd h (by simp)
 ·rw [if_neg x0] at h;exact absurd h (by simp)
theorem AQ.calls (k:Nat) (A0:Option Addr) (c0:Nat) (l0:List Int) (r1:Int) (r2:Bool) (w:World) (hr0:Kd.C (Kd.int .i64) w A0 l0.length l0) (hc0:l0.length<=c0) (h:AQ.f k l0=some (r1,r2)) :
  Calls Tryz.prog 54 #[.slice A0 l0.length c0] w λe w'=>e=.returned (.tuple #[.int .i64 r1,.bool r2])/\Below w.heap.size w w':=by
 have HR0:=Aa.mk hr0;have HC0:=Aa.mk hc0;clear hr0 hc0;have HB:=Aa.mk (WG w.heap.size w);obtain ⟨t,h1,h⟩:=By.mp h;have A1:=Aa.mk h1;clear h1;by_cases c3:t=true
 ·subst c3;rw [if_pos rfl] at h;obtain ⟨r,h3,h⟩:=By.mp h;simp only [AT,If] at h;obtain ⟨rfl,rfl⟩:=h;have A3:=Aa.mk h3;clear h3;have hmf:∀ (fn:Fn) (first cap:Array Value) (w:World),(Instr.makeFunc fn first cap).run Tryz.prog w=.ok (.func fn first cap) w:=λ_ _ _ _=>rfl;have ca:∀ m,(((w.alloc (Obj.cells #[.slice A0 l0.length c0] 32)).drewN m).alloc (Obj.cells #[.int .i64 0] 3)).cell? ⟨w.heap.size+1,0,none⟩=some (.int .i64 0):=λm=>Ak (AQ.heap_new (by simp)) 0;have fa:∀ m,(((w.alloc (Obj.cells #[.slice A0 l0.length c0] 32)).drewN m).alloc (Obj.cells #[.int .i64 0] 3)).frozen? ⟨w.heap.size+1,0,none⟩=false:=λm=>AD (AQ.heap_new (by simp)) 0;have hb0:∀ m,Below w.heap.size w (((w.alloc (Obj.cells #[.slice A0 l0.length c0] 32)).drewN m).alloc (Obj.cells #[.int .i64 0] 3)):=λm=>Ad (Ac (Ad (WG w.heap.size w) _) m) _;have HBM:=Aa.mk hb0;clear hb0;go_enter Tryz.func54,Tryz.ntmps54
  go_wp2_with (first
   | (go_at_call 56;refine (AA.calls k _ _ l0 true _ (by repeat (first | exact HR0.out | (with_reducible refine Kd.C_alloc ?_ _) | (with_reducible refine Kd.C_drewN ?_ _) | (with_reducible refine Kd.C_drew ?_))) HC0.out A1.out).mono ?_;rintro e w1 ⟨rfl,⟨⟨n,rfl⟩⟩⟩)
   | (go_at_call 106;refine (Be.calls (AQ.step l0) 107 _ Tryz.func107 (by kernel_rfl) rfl #[.pointer (some ⟨w.heap.size,0,none⟩),.pointer (some ⟨w.heap.size+1,0,none⟩)] (AQ.R A0 l0.length c0 w.heap.size (w.heap.size+1) w) k A0 c0 l0 0 r _ ?ht ?hs A3.out).mono ?_;(case ht=>exact λs s' x y z w1 h1 h2=>AQ.tell l0 A0 c0 _ _ w s s' x y z w1 (λw' hb=>Kd.C_below HR0.out hb) (by omega) h1 h2);(case hs=>exact ⟨AQ.heap_new (by simp),B3 (BH (heap_alloc_new w _) _) _,HBM.out _⟩);rintro e w2 ⟨rfl,hs⟩;have c2:=Ak hs.1 0;have HB2:=Aa.mk hs.2.2;clear hs))
  go_ret2;exact ⟨rfl,by repeat (first | exact HB2.out | apply Ac)⟩
 ·replace c3:=WJ.mpr c3;subst c3;rw [if_neg (by decide)] at h;simp only [AT,If] at h;obtain ⟨rfl,rfl⟩:=h;go_enter Tryz.func54,Tryz.ntmps54
  go_wp2_with (first
   | (go_at_call 56;refine (AA.calls k _ _ l0 false _ (by repeat (first | exact HR0.out | (with_reducible refine Kd.C_alloc ?_ _) | (with_reducible refine Kd.C_drewN ?_ _) | (with_reducible refine Kd.C_drew ?_))) HC0.out A1.out).mono ?_;rintro e w1 ⟨rfl,⟨⟨n,rfl⟩⟩⟩))
  go_ret2;exact ⟨rfl,by repeat (first | (with_reducible first | exact HB.out | apply Ad | apply Ac | apply Ae) | exact HB.out)⟩
theorem AG.heap_new {W:World} {o:Obj} {g:Nat} (h:g=W.heap.size):(W.alloc o).heap[g]?=some o:=by
 subst h;exact heap_alloc_new W o
def AG.R (A0:Option Addr) (n0 c0 ga gm:Nat) (w0:World) (s:Int) (w1:World):Prop:=w1.heap[gm]?=some (.cells #[.int .i64 s] 3 (0,0))/\w1.heap[ga]?=some (.cells #[.slice A0 n0 c0] 32 (0,0))/\Below w0.heap.size w0 w1
theorem AG.tell (l0:List Int) (A0:Option Addr) (c0 ga gm:Nat) (w0:World) (s s' x y z:Int) (w1:World) (hr0:∀ w',Below w0.heap.size w0 w'->Kd.C (Kd.int .i64) w' A0 l0.length l0) (hg:w0.heap.size<=gm) (hR:AG.R A0 l0.length c0 ga gm w0 s w1) (h:AG.step l0 s x y z=some s') :
  Calls Tryz.prog 108 (#[.int .i64 x,.int .i64 y,.int .i64 z]++#[.pointer (some ⟨ga,0,none⟩),.pointer (some ⟨gm,0,none⟩)]) w1 λe w2=>e=.returned (.tuple #[])/\AG.R A0 l0.length c0 ga gm w0 s' w2:=by
 show Calls Tryz.prog 108 #[.int .i64 x,.int .i64 y,.int .i64 z,.pointer (some ⟨ga,0,none⟩),.pointer (some ⟨gm,0,none⟩)] w1 _;obtain ⟨hR1,hR3,hR2⟩:=hR;have hc:=hr0 w1 hR2;have HR1:=Aa.mk hR1;have HR2:=Aa.mk hR2;have HR3:=Aa.mk hR3;have HG:=Aa.mk hg;have hne:ga≠gm:=Gl hR3 hR1 (by decide);have HN:=Aa.mk hne;have c0_:_=some _:=Ak hR1 0;have c1_:_=some _:=Ak hR3 0;have f0_:=AD hR1 0;unfold AG.step at h;by_cases x0:0<=x
 ·rw [if_pos x0] at h;by_cases x1:x<(l0.length:Int)
  ·rw [if_pos x1] at h;by_cases y0:0<=y
   ·rw [if_pos y0] at h;by_cases y1:y<(l0.length:Int)
    ·rw [if_pos y1] at h;by_cases z0:0<=z
     ·rw [if_pos z0] at h;by_cases z1:z<(l0.length:Int)
      ·rw [if_pos z1] at h;obtain ⟨ad,e1,hx⟩:=Kd.at_int hc x x0 x1;subst e1;obtain ⟨ad2,e2,hy⟩:=Kd.at_int hc y y0 y1;obtain rfl:ad=ad2:=by injection e2
       obtain ⟨ad3,e3,hz⟩:=Kd.at_int hc z z0 z1;obtain rfl:ad=ad3:=by injection e3
       have px0:=eq_true x0;have px1:=eq_true x1;have py0:=eq_true y0;have py1:=eq_true y1;have pz0:=eq_true z0;have pz1:=eq_true z1
       obtain ⟨p,hp⟩:∃ p:Int,wrap64 (rd l0 x+rd l0 y)=p:=⟨_,rfl⟩
       rw [hp] at h;have hpw:IntKind.i64.wrap (rd l0 x+rd l0 y)=p:=(C9 _).trans hp;clear x0 x1 y0 y1 z0 z1 e2 e3 hc hr0 hR1 hR2 hR3 hg hne;by_cases hc:rd l0 z<p
       ·rw [if_pos hc] at h;have hcb:decide (rd l0 z<p)=true:=Wo hc
        obtain ⟨q,hq⟩:∃ q:Int,wrap64 (p+rd l0 z)=q:=⟨_,rfl⟩
        rw [hq] at h;have hqw:IntKind.i64.wrap (p+rd l0 z)=q:=(C9 _).trans hq;have hm:(if s<q then q else s)=s':=AS h;clear h hc hp hq;go_enter Tryz.func108,Tryz.ntmps108;go_wp2
        go_quiet (fail)
        go_wp2
        go_region
        all_goals go_wp2
        all_goals go_end0
        all_goals exact ⟨rfl,Ce (BH HR1.out _) 0 _ rfl,E5 (BH HR3.out _) HN.out _,(Ac HR2.out _).setCell HG.out _⟩
       ·rw [if_neg hc] at h;have hcb:decide (rd l0 z<p)=false:=Wp hc;obtain rfl:=AS h;clear h hc hp;go_enter Tryz.func108,Tryz.ntmps108;go_wp2
        go_quiet (fail)
        go_wp2;go_end0;exact ⟨rfl,BH HR1.out _,BH HR3.out _,Ac HR2.out _⟩
      ·rw [if_neg z1] at h;exact absurd h (by simp)
     ·rw [if_neg z0] at h;exact absurd h (by simp)
    ·rw [if_neg y1] at h;exact absurd h (by simp)
   ·rw [if_neg y0] at h;exact absurd h (by simp)
  ·rw [if_neg x1] at h;exact absurd h (by simp)
 ·rw [if_neg x0] at h;exact absurd h (by simp)
theorem AG.calls (k:Nat) (A0:Option Addr) (c0:Nat) (l0:List Int) (r1:Int) (r2:Bool) (w:World) (hr0:Kd.C (Kd.int .i64) w A0 l0.length l0) (hc0:l0.length<=c0) (h:AG.f k l0=some (r1,r2)) :
  Calls Tryz.prog 55 #[.slice A0 l0.length c0] w λe w'=>e=.returned (.tuple #[.int .i64 r1,.bool r2])/\Below w.heap.size w w':=by
 have HR0:=Aa.mk hr0;have HC0:=Aa.mk hc0;clear hr0 hc0;have HB:=Aa.mk (WG w.heap.size w);obtain ⟨t,h1,h⟩:=By.mp h;have A1:=Aa.mk h1;clear h1;by_cases c3:t=true
 ·subst c3;rw [if_pos rfl] at h;obtain ⟨r,h3,h⟩:=By.mp h;simp only [AT,If] at h;obtain ⟨rfl,hr2⟩:=h;have A3:=Aa.mk h3;clear h3;have hmf:∀ (fn:Fn) (first cap:Array Value) (w:World),(Instr.makeFunc fn first cap).run Tryz.prog w=.ok (.func fn first cap) w:=λ_ _ _ _=>rfl;have ca:∀ m,(((w.alloc (Obj.cells #[.slice A0 l0.length c0] 32)).drewN m).alloc (Obj.cells #[.int .i64 0] 3)).cell? ⟨w.heap.size+1,0,none⟩=some (.int .i64 0):=λm=>Ak (AG.heap_new (by simp)) 0;have fa:∀ m,(((w.alloc (Obj.cells #[.slice A0 l0.length c0] 32)).drewN m).alloc (Obj.cells #[.int .i64 0] 3)).frozen? ⟨w.heap.size+1,0,none⟩=false:=λm=>AD (AG.heap_new (by simp)) 0;have hb0:∀ m,Below w.heap.size w (((w.alloc (Obj.cells #[.slice A0 l0.length c0] 32)).drewN m).alloc (Obj.cells #[.int .i64 0] 3)):=λm=>Ad (Ac (Ad (WG w.heap.size w) _) m) _;have HBM:=Aa.mk hb0;clear hb0;go_enter Tryz.func55,Tryz.ntmps55
  go_wp2_with (first
   | (go_at_call 56;refine (AA.calls k _ _ l0 true _ (by repeat (first | exact HR0.out | (with_reducible refine Kd.C_alloc ?_ _) | (with_reducible refine Kd.C_drewN ?_ _) | (with_reducible refine Kd.C_drew ?_))) HC0.out A1.out).mono ?_;rintro e w1 ⟨rfl,⟨⟨n,rfl⟩⟩⟩)
   | (go_at_call 106;refine (Be.calls (AG.step l0) 108 _ Tryz.func108 (by kernel_rfl) rfl #[.pointer (some ⟨w.heap.size,0,none⟩),.pointer (some ⟨w.heap.size+1,0,none⟩)] (AG.R A0 l0.length c0 w.heap.size (w.heap.size+1) w) k A0 c0 l0 0 r _ ?ht ?hs A3.out).mono ?_;(case ht=>exact λs s' x y z w1 h1 h2=>AG.tell l0 A0 c0 _ _ w s s' x y z w1 (λw' hb=>Kd.C_below HR0.out hb) (by omega) h1 h2);(case hs=>exact ⟨AG.heap_new (by simp),B3 (BH (heap_alloc_new w _) _) _,HBM.out _⟩);rintro e w2 ⟨rfl,hs⟩;have c2:=Ak hs.1 0;have HB2:=Aa.mk hs.2.2;clear hs))
  go_quiet (fail)
  go_wp2;go_ret2;exact ⟨by simp [<- hr2],by repeat (first | exact HB2.out | apply Ac)⟩
 ·replace c3:=WJ.mpr c3;subst c3;rw [if_neg (by decide)] at h;simp only [AT,If] at h;obtain ⟨rfl,rfl⟩:=h;go_enter Tryz.func55,Tryz.ntmps55
  go_wp2_with (first
   | (go_at_call 56;refine (AA.calls k _ _ l0 false _ (by repeat (first | exact HR0.out | (with_reducible refine Kd.C_alloc ?_ _) | (with_reducible refine Kd.C_drewN ?_ _) | (with_reducible refine Kd.C_drew ?_))) HC0.out A1.out).mono ?_;rintro e w1 ⟨rfl,⟨⟨n,rfl⟩⟩⟩))
  go_ret2;exact ⟨rfl,by repeat (first | (with_reducible first | exact HB.out | apply Ad | apply Ac | apply Ae) | exact HB.out)⟩
theorem AP.calls {S:Type} (step:S->ByteArray->Int->Int->Option S) (K:Nat) (fn:Func) (hK:Tryz.prog.funcs[K]?=some fn) (hKn:(fn.name== "runtime.NumGoroutine")=false) (hKb:fn.body.isSome=true) (caps:Array Value) (B0:Nat) (R:S->World->Prop)
  (k:Nat) (A0:Option Addr) (c0:Nat) (l0:List Int) (s0 s1:S) (w:World)
  (hmove:∀ s w1 w2,R s w1->w.heap.size<=w1.heap.size->Below w1.heap.size w1 w2->R s w2)
  (htell:∀ s s' t p q w1,R s w1->step s t p q=some s'->Calls Tryz.prog K (#[.string t,.int .i64 p,.int .i64 q]++caps) w1 λe w2=>e=.returned (.tuple #[])/\R s' w2/\Below B0 w1 w2)
  (hB0:B0<=w.heap.size) (hr0:∀ w',Below B0 w w'->Kd.C (Kd.int .i64) w' A0 l0.length l0) (hc0:l0.length<=c0) (hs:R s0 w) (h:AP.f step k l0 s0=some s1) :
  Calls Tryz.prog 112 #[.slice A0 l0.length c0,.func (.func K) #[] caps] w λe w'=>e=.returned (.tuple #[])/\R s1 w'/\Below B0 w w':=by
 have HR0:=Aa.mk hr0;have HC0:=Aa.mk hc0;have HM:=Aa.mk hmove;have HT:=Aa.mk htell;have HS:=Aa.mk hs;have HB0:=Aa.mk hB0;have HKn:=Aa.mk (And.intro hK (And.intro hKn hKb));clear hr0 hc0 hmove htell hs hB0 hK hKn hKb
 obtain ⟨n,hn⟩:∃ j_:Int,(shl .i64 1 (l0.length:Int))=j_:=⟨_,rfl⟩
 have H:AP.l0 step k l0 n s0 0=some s1:=by rw [<- hn];exact h
 clear h;have hji2:=hn;have hji2_:(IntKind.i64.wrap (1*2 ^ min (l0.length:Int).toNat 64))=n:=hji2;have hji2z:(l0.length:Int)<=64->(IntKind.i64.wrap (1*2 ^ (l0.length:Int).toNat))=n:=PO hji2;have hji2p:(IntKind.i64.wrap (1*2 ^ min l0.length 64))=n:=hji2_;have hji2q:(l0.length:Int)<=64->(IntKind.i64.wrap (1*2 ^ l0.length))=n:=hji2z;have hji2r:(IntKind.i64.wrap (2 ^ min l0.length 64))=n:=by have h_:=hji2p;rw [Int.one_mul] at h_;exact h_
 have hji2s:(l0.length:Int)<=64->(IntKind.i64.wrap (2 ^ l0.length))=n:=λhle_=>by have h_:=hji2q hle_;rw [Int.one_mul] at h_;exact h_
 have H':=Aa.mk H;clear H;go_enter Tryz.func112,Tryz.ntmps112;go_wp2
 go_loopg [14] k (λkq v14 w'=>∃ (s:S) (x14:Int),v14=.int .i64 x14/\Aa (AP.l0 step kq l0 n s x14=some s1)/\Aa (kq<=k)/\Aa (R s w')/\Aa (Below B0 w w'))
 case atStart=>exact ⟨s0,0,(by first | rfl | (simp;done) | (simp [*];done)),H',⟨Wn _⟩,HS,⟨WG _ _⟩⟩
 case round=>
  clear H' HS;obtain ⟨s,x14,rfl,HA,HK1,HS,HB⟩:=hrel
  obtain ⟨wo,rfl⟩:∃ x:World,x=wr:=⟨wr,rfl⟩
  cases gk with
  | zero=>exact absurd HA.out (by simp [AP.l0])
  | succ k1=>
   have H:=HA.out;clear HA;simp only [AP.l0] at H;by_cases c3:x14<n
   ·rw [if_pos c3] at H;have c3b0:decide (x14<n)=true:=Wo c3;clear c3;obtain ⟨⟨rt,rp,rlo,rhi⟩,h1,H⟩:=By.mp H;obtain ⟨s',h2,H⟩:=By.mp H;have HT':=Aa.mk (HT.out s s' _ _ _ · · h2);have H2:=Aa.mk h2;have H':=Aa.mk H;have H1:=Aa.mk h1;clear H h1 h2
    obtain ⟨et,het⟩:∃ y_:List Int,y_=[]:=⟨_,rfl⟩
    have Net:=Aa.mk het;clear het;have HZ:=Aa.mk (show w.heap.size<=wo.heap.size from HB.out.size);have HB1:=Aa.mk (WG wo.heap.size wo)
    go_wp2_with (first | ((with_reducible refine Er (N:=17) rfl ?_);refine Kd.R_lit (Kd.int .u8) _ 5 ?hg (N:=17) ?hd (xs:=([]:List Int)) (inner:=[]) (ok:=λ_=>True) (okp:=λ_=>True) ?hr ?hp (λ_ hk=>hk) trivial (WG _ _) (Wn _) (by simp) ?_;(case hd=>rfl);(case hg=>rfl);(case hr=>first | (go_simp;done) | (go_simp;rfl));(case hp=>exact (Reps.none _ _));intro v158 w6 ho7 hb hg_ hnew_;clear hg_ hnew_;rw [<- Net.out] at ho7;have n0_:=Aa.mk (Kd.R_lower ho7 (WA (Wn _) (Below.size (by repeat (first | (with_reducible first | exact HB1.out | apply Ad | apply Ac | apply Ae) | exact HB1.out)))));have n1_:=Aa.mk (Ez (by repeat (first | (with_reducible first | exact HB1.out | apply Ad | apply Ac | apply Ae) | exact HB1.out)) (WA (Wn _) (Below.size (by repeat (first | (with_reducible first | exact HB1.out | apply Ad | apply Ac | apply Ae) | exact HB1.out)))) hb);clear HB1;have HO:=n0_;have HB1:=n1_;clear n0_ n1_;clear hb ho7))
    go_loopg [5,6,7,8,20] k1 (λkq v5 v6 v7 v8 v20 w'=>∃ (t:List Int) (p lo hi i:Int),v6=.int .i64 p/\v7=.int .i64 lo/\v8=.int .i64 hi/\v20=.int .i64 i/\Aa (AP.l1 kq l0 x14 t p lo hi i=some (rt,rp,rlo,rhi))/\Aa (kq<=k1)/\Aa (Kd.R (Kd.int .u8) 5 w' wo.heap.size (λ_=>True) v5 t)/\Aa (Below wo.heap.size wo w'))
    case atStart=>exact ⟨et,0,0,0,0,(by first | rfl | (simp;done) | (simp [*];done)),(by first | rfl | (simp;done) | (simp [*];done)),(by first | rfl | (simp;done) | (simp [*];done)),(by first | rfl | (simp;done) | (simp [*];done)),⟨by rw [Net.out];exact H1.out⟩,⟨Wn _⟩,⟨by (with_reducible repeat (first | apply Kd.R_alloc | apply Kd.R_drewN | apply Kd.R_drew));exact HO.out⟩,⟨(by repeat (first | (with_reducible first | exact HB1.out | apply Ad | apply Ac | apply Ae) | exact HB1.out))⟩⟩
    case round=>
     clear H1 HB1 HO
     try clear c3b0
     obtain ⟨t,p,lo,hi,i,rfl,rfl,rfl,rfl,HA,HK2,HO,HB1⟩:=hrel
     cases gk with
     | zero=>exact absurd HA.out (by simp [AP.l1])
     | succ k2=>
      have H:=HA.out;clear HA;simp only [AP.l1] at H;by_cases c4:i<(l0.length:Int)
      ·rw [if_pos c4] at H;have c4b0:decide (i<(l0.length:Int))=true:=Wo c4;clear c4;by_cases c5:0<=i
       ·rw [if_pos c5] at H;have c5b0:decide (0<=i)=true:=Wo c5;clear c5
        obtain ⟨js,hjs⟩:∃ j_:Int,(wrap64 ((wrap64 ((l0.length:Int)-1))-i))=j_:=⟨_,rfl⟩
        rw [hjs] at H;have hjsw:(IntKind.i64.wrap ((wrap64 ((l0.length:Int)-1))-i))=js:=(C9 _).trans hjs;by_cases c6:0<=js
        ·rw [if_pos c6] at H;have c6b0:=eq_true c6;have c6b1:decide (0<=js)=true:=Wo c6;clear c6;by_cases c7:t.length<1000
         ·rw [if_pos c7] at H;have LMc:=Aa.mk c7;clear c7
          obtain ⟨jb,hjb⟩:∃ j_:Int,(shr .i64 x14 js)=j_:=⟨_,rfl⟩
          rw [hjb] at H;have hjb_:(x14 / 2 ^ min (js).toNat 64)=jb:=hjb;have hjbz:js<=64->(x14 / 2 ^ js.toNat)=jb:=PP hjb;have p149:0<=(i:Int):=of_decide_eq_true (by first | (with_reducible assumption) | assumption);have q149:i<(l0.length:Int):=of_decide_eq_true (by first | (with_reducible assumption) | assumption);obtain ⟨ad149,e149,hx149_0⟩:=Kd.at_int (HR0.out _ (HB.out.trans (Below.mono HB1.out (WA HB0.out HZ.out)))) i p149 q149;cases e149;have hlt:=World.block_lt_of_cell? _ _ hx149_0;replace p149:=eq_true p149;replace q149:=eq_true q149;by_cases cb:Go.bits .and .i64 (jb) 1=0
          ·rw [if_pos cb] at H;have cbb:(Go.bits .and .i64 (jb) 1==0)=true:=beq_iff_eq.mpr cb;clear cb
           obtain ⟨jp,hjp⟩:∃ j_:Int,wrap64 (p+rd l0 i)=j_:=⟨_,rfl⟩
           rw [hjp] at H
           obtain ⟨jlo,hjlo⟩:∃ j_:Int,(mn lo jp)=j_:=⟨_,rfl⟩
           rw [hjlo] at H;have hjlo_:(if jp<lo then jp else lo)=jlo:=hjlo
           obtain ⟨jhi,hjhi⟩:∃ j_:Int,(mx hi jp)=j_:=⟨_,rfl⟩
           rw [hjhi] at H;have hjhi_:(if hi<jp then jp else hi)=jhi:=hjhi;have hjpw:(IntKind.i64.wrap (p+rd l0 i))=jp:=(C9 _).trans hjp
           obtain ⟨t1,ht1⟩:∃ y_:List Int,y_=t++[114]:=⟨_,rfl⟩
           rw [<- ht1] at H;have Nt:=Aa.mk ht1;clear ht1;have H':=Aa.mk H;clear H
           go_wp2_with (first | ((with_reducible refine DD (b:=.append) (xs:=#[.tmp 37,.tmp 38]) rfl ?_);at_builtin;refine Kd.R_append (Kd.int .u8) (w0:=wo) wo.heap.size rfl (.tmp 37) (.tmp 38) 22 5 (.int .u8 0) 1 rfl Tryz.underlying22 info5 rfl (by decide) (by omega) u5 t 114 [.int .u8 114] (λ_=>True) (λ_=>False) rfl rfl ?aP (λ_ hk=>hk.elim) ?aF ?aO ?aB ?aS ?aL ?_;(case aP=>exact rfl);(case aB=>exact (by repeat (first | (with_reducible first | exact HB1.out | apply Ad | apply Ac | apply Ae) | exact HB1.out)));(case aF=>exact (λ_ _=>trivial));(case aO=>exact (by (with_reducible repeat (first | apply Kd.R_alloc | apply Kd.R_drewN | apply Kd.R_drew));exact HO.out));(case aS=>exact (WA (Wn _) (Below.size (by repeat (first | (with_reducible first | exact HB1.out | apply Ad | apply Ac | apply Ae) | exact HB1.out)))));(case aL=>have:=LMc.out;omega);intro v161 w16 ho hb hg hat;rw [<- Nt.out] at ho;have n0_:=Aa.mk (hb);have n1_:=Aa.mk (ho);clear HB1;clear HO;have HB1:=n0_;have HO:=n1_;clear n0_ n1_;clear ho hb hg hat))
           go_roundg k2
           case measure=>have:=HK2.out;omega
           case rel=>exact ⟨t1,jp,jlo,jhi,wrap64 (i+1),(by first | rfl | (simp;done) | (simp [*];done)),(by first | rfl | (simp;done) | (simp only [<- hjlo]<;>(first | rfl | simp)) | (simp [*];done)),(by first | rfl | (simp;done) | (simp only [<- hjhi]<;>(first | rfl | simp)) | (simp [*];done)),(by first | rfl | (simp;done) | (simp [*];done)),H',⟨by have:=HK2.out;omega⟩,HO,⟨(by repeat (first | (with_reducible first | exact HB1.out | apply Ad | apply Ac | apply Ae) | exact HB1.out))⟩⟩
          ·rw [if_neg cb] at H;have cbb:(Go.bits .and .i64 (jb) 1==0)=false:=beq_eq_false_iff_ne.mpr cb;clear cb
           obtain ⟨jp,hjp⟩:∃ j_:Int,wrap64 (p-rd l0 i)=j_:=⟨_,rfl⟩
           rw [hjp] at H
           obtain ⟨jlo,hjlo⟩:∃ j_:Int,(mn lo jp)=j_:=⟨_,rfl⟩
           rw [hjlo] at H;have hjlo_:(if jp<lo then jp else lo)=jlo:=hjlo
           obtain ⟨jhi,hjhi⟩:∃ j_:Int,(mx hi jp)=j_:=⟨_,rfl⟩
           rw [hjhi] at H;have hjhi_:(if hi<jp then jp else hi)=jhi:=hjhi;have hjpw:(IntKind.i64.wrap (p-rd l0 i))=jp:=(C9 _).trans hjp
           obtain ⟨t1,ht1⟩:∃ y_:List Int,y_=t++[108]:=⟨_,rfl⟩
           rw [<- ht1] at H;have Nt:=Aa.mk ht1;clear ht1;have H':=Aa.mk H;clear H
           go_wp2_with (first | ((with_reducible refine DD (b:=.append) (xs:=#[.tmp 43,.tmp 44]) rfl ?_);at_builtin;refine Kd.R_append (Kd.int .u8) (w0:=wo) wo.heap.size rfl (.tmp 43) (.tmp 44) 22 5 (.int .u8 0) 1 rfl Tryz.underlying22 info5 rfl (by decide) (by omega) u5 t 108 [.int .u8 108] (λ_=>True) (λ_=>False) rfl rfl ?aP (λ_ hk=>hk.elim) ?aF ?aO ?aB ?aS ?aL ?_;(case aP=>exact rfl);(case aB=>exact (by repeat (first | (with_reducible first | exact HB1.out | apply Ad | apply Ac | apply Ae) | exact HB1.out)));(case aF=>exact (λ_ _=>trivial));(case aO=>exact (by (with_reducible repeat (first | apply Kd.R_alloc | apply Kd.R_drewN | apply Kd.R_drew));exact HO.out));(case aS=>exact (WA (Wn _) (Below.size (by repeat (first | (with_reducible first | exact HB1.out | apply Ad | apply Ac | apply Ae) | exact HB1.out)))));(case aL=>have:=LMc.out;omega);intro v161 w16 ho hb hg hat;rw [<- Nt.out] at ho;have n0_:=Aa.mk (hb);have n1_:=Aa.mk (ho);clear HB1;clear HO;have HB1:=n0_;have HO:=n1_;clear n0_ n1_;clear ho hb hg hat))
           go_roundg k2
           case measure=>have:=HK2.out;omega
           case rel=>exact ⟨t1,jp,jlo,jhi,wrap64 (i+1),(by first | rfl | (simp;done) | (simp [*];done)),(by first | rfl | (simp;done) | (simp only [<- hjlo]<;>(first | rfl | simp)) | (simp [*];done)),(by first | rfl | (simp;done) | (simp only [<- hjhi]<;>(first | rfl | simp)) | (simp [*];done)),(by first | rfl | (simp;done) | (simp [*];done)),H',⟨by have:=HK2.out;omega⟩,HO,⟨(by repeat (first | (with_reducible first | exact HB1.out | apply Ad | apply Ac | apply Ae) | exact HB1.out))⟩⟩
         ·rw [if_neg c7] at H;exact absurd H (by simp)
        ·rw [if_neg c6] at H;exact absurd H (by simp)
       ·rw [if_neg c5] at H;exact absurd H (by simp)
      ·rw [if_neg c4] at H;have c4b0:decide (i<(l0.length:Int))=false:=Wp c4;clear c4;simp only [AT,If] at H;obtain ⟨rfl,rfl,rfl,rfl⟩:=H;have hcv17:=FU (P:=Tryz.prog) Tryz.underlying22 Tryz.underlying5 Tryz.underlying9 (Kd.own_of_R HO.out)
       go_wp2_with fail
       rw [Hb HKn.out.1 HKn.out.2.1 HKn.out.2.2,Oper.upon_enter];refine (HT'.out wr (HM.out _ _ _ HS.out HZ.out HB1.out)).mono ?_;rintro e w2 ⟨rfl,hs2,hb2⟩;have HS2:=Aa.mk hs2;have HB2:=Aa.mk (HB.out.trans ((Below.mono HB1.out (WA HB0.out HZ.out)).trans hb2));clear hs2 hb2 HB1 HO HS HB;go_wp2
       go_roundg k1
       case measure=>have:=HK1.out;omega
       case rel=>exact ⟨s',wrap64 (x14+1),(by first | rfl | (simp;done) | (simp [*];done)),H',⟨by have:=HK1.out;omega⟩,HS2,HB2⟩
   ·rw [if_neg c3] at H;have c3b0:decide (x14<n)=false:=Wp c3;clear c3;obtain rfl:=AS H;go_wp2;go_end0;exact ⟨rfl,HS.out,HB.out⟩
theorem Cw.tell (g B0:Nat) (s:Int) (t:ByteArray) (p q:Int) (w:World) (h:w.heap[g]?=some (.cells #[.int .i64 s] 3 (0,0))) (hB:B0<=g) :
  Calls Tryz.prog 116 #[.string t,.int .i64 p,.int .i64 q,.pointer (some ⟨g,0,none⟩)] w λe w2=>e=.returned (.tuple #[])/\w2.heap[g]?=some (.cells #[.int .i64 (if p=0 then wrap64 (s+1) else s)] 3 (0,0))/\Below B0 w w2:=by
 have c0:w.cell? ⟨g,0,none⟩=some (.int .i64 s):=Ak h 0;have f0:=AD h 0;have H:=Aa.mk h;clear h;by_cases hp:p=0
 ·have hpb:(p==0)=true:=beq_iff_eq.mpr hp;rw [if_pos hp];clear hp;go_enter Tryz.func116,Tryz.ntmps116;go_wp2;go_end0;exact ⟨rfl,Ce H.out 0 _ rfl,(WG _ _).setCell hB _⟩
 ·have hpb:(p==0)=false:=beq_eq_false_iff_ne.mpr hp;rw [if_neg hp];clear hp;go_enter Tryz.func116,Tryz.ntmps116;go_wp2;go_end0;exact ⟨rfl,H.out,WG _ _⟩
theorem Cw.calls (k:Nat) (A0:Option Addr) (c0:Nat) (l0:List Int) (r1:Int) (r2:Bool) (w:World) (hr0:Kd.C (Kd.int .i64) w A0 l0.length l0) (hc0:l0.length<=c0) (h:Cw.f k l0=some (r1,r2)) :
  Calls Tryz.prog 69 #[.slice A0 l0.length c0] w λe w'=>e=.returned (.tuple #[.int .i64 r1,.bool r2])/\Below w.heap.size w w':=by
 have HR0:=Aa.mk hr0;have HC0:=Aa.mk hc0;clear hr0 hc0;have HB:=Aa.mk (WG w.heap.size w);obtain ⟨t,h1,h⟩:=By.mp h;have A1:=Aa.mk h1;clear h1;by_cases c3:t=true
 ·subst c3;rw [if_pos rfl] at h;obtain ⟨r,h3,h⟩:=By.mp h;simp only [AT,If] at h;obtain ⟨rfl,rfl⟩:=h;have A3:=Aa.mk h3;clear h3;have ca:∀ m,((w.drewN m).alloc (Obj.cells #[.int .i64 0] 3)).cell? ⟨w.heap.size,0,none⟩=some (.int .i64 0):=λm=>Ak (heap_alloc_new (w.drewN m) _) 0;have fa:∀ m,((w.drewN m).alloc (Obj.cells #[.int .i64 0] 3)).frozen? ⟨w.heap.size,0,none⟩=false:=λm=>AD (heap_alloc_new (w.drewN m) _) 0;have hmf:∀ (fn:Fn) (first cap:Array Value) (w:World),(Instr.makeFunc fn first cap).run Tryz.prog w=.ok (.func fn first cap) w:=λ_ _ _ _=>rfl;go_enter Tryz.func69,Tryz.ntmps69
  go_wp2_with (first
   | (go_at_call 40;refine (Am.calls k _ _ l0 true _ (by repeat (first | exact HR0.out | (with_reducible refine Kd.C_alloc ?_ _) | (with_reducible refine Kd.C_drewN ?_ _) | (with_reducible refine Kd.C_drew ?_))) HC0.out A1.out).mono ?_;rintro e w1 ⟨rfl,⟨⟨n,rfl⟩⟩⟩)
   | (go_at_call 112;refine (AP.calls Cw.step 116 _ Tryz.func116 (by kernel_rfl) rfl #[.pointer (some ⟨w.heap.size,0,none⟩)] w.heap.size (λs w1=>w1.heap[w.heap.size]?=some (.cells #[.int .i64 s] 3 (0,0))) k A0 c0 l0 0 r _ ?hm ?ht ?hB ?hr HC0.out ?hs A3.out).mono ?_;(case hm=>exact λs w1 w2 h1 hle h2=>(h2.block _ (by simp at hle;omega)).trans h1);(case ht=>exact λs s' t p q w1 h1 h2=>(by obtain rfl:=AS h2;exact Cw.tell _ _ s t p q w1 h1 (Wn _)));(case hB=>simp);(case hr=>exact λw' hb=>Kd.C_below HR0.out (Below.trans (by repeat (first | exact WG _ _ | apply Ad | apply Ac | apply Ae | refine C6 ?_ (Wn _))) hb));(case hs=>exact Ce (heap_alloc_new (w.drewN _) _) 0 _ rfl);rintro e w2 ⟨rfl,hs,hb⟩;have c2:=Ak hs 0;have HB2:=Aa.mk (Below.trans (by repeat (first | exact WG _ _ | apply Ad | apply Ac | apply Ae | refine C6 ?_ (Wn _))) hb:Below w.heap.size w w2);clear hb hs))
  go_ret2;exact ⟨rfl,HB2.out⟩
 ·replace c3:=WJ.mpr c3;subst c3;rw [if_neg (by decide)] at h;simp only [AT,If] at h;obtain ⟨rfl,rfl⟩:=h;go_enter Tryz.func69,Tryz.ntmps69
  go_wp2_with (first
   | (go_at_call 40;refine (Am.calls k _ _ l0 false _ (by repeat (first | exact HR0.out | (with_reducible refine Kd.C_alloc ?_ _) | (with_reducible refine Kd.C_drewN ?_ _) | (with_reducible refine Kd.C_drew ?_))) HC0.out A1.out).mono ?_;rintro e w1 ⟨rfl,⟨⟨n,rfl⟩⟩⟩))
  go_ret2;exact ⟨rfl,by repeat (first | (with_reducible first | exact HB.out | apply Ad | apply Ac | apply Ae) | exact HB.out)⟩
theorem BW.tell (g B0:Nat) (s:Int) (t:ByteArray) (p q:Int) (w:World) (h:w.heap[g]?=some (.cells #[.int .i64 s] 3 (0,0))) (hB:B0<=g) :
  Calls Tryz.prog 117 #[.string t,.int .i64 p,.int .i64 q,.pointer (some ⟨g,0,none⟩)] w λe w2=>e=.returned (.tuple #[])/\w2.heap[g]?=some (.cells #[.int .i64 (mn s q)] 3 (0,0))/\Below B0 w w2:=by
 have c0:w.cell? ⟨g,0,none⟩=some (.int .i64 s):=Ak h 0;have f0:=AD h 0
 obtain ⟨m,hm⟩:∃ j_:Int,(mn s q)=j_:=⟨_,rfl⟩
 have hm_:(if q<s then q else s)=m:=hm;rw [hm];have H:=Aa.mk h;clear h;go_enter Tryz.func117,Tryz.ntmps117;go_wp2;go_end0;exact ⟨rfl,Ce H.out 0 _ (by simp [<- hm_]),(WG _ _).setCell hB _⟩
theorem BW.calls (k:Nat) (A0:Option Addr) (c0:Nat) (l0:List Int) (r1:Int) (r2:Bool) (w:World) (hr0:Kd.C (Kd.int .i64) w A0 l0.length l0) (hc0:l0.length<=c0) (h:BW.f k l0=some (r1,r2)) :
  Calls Tryz.prog 70 #[.slice A0 l0.length c0] w λe w'=>e=.returned (.tuple #[.int .i64 r1,.bool r2])/\Below w.heap.size w w':=by
 have HR0:=Aa.mk hr0;have HC0:=Aa.mk hc0;clear hr0 hc0;have HB:=Aa.mk (WG w.heap.size w);obtain ⟨t,h1,h⟩:=By.mp h;have A1:=Aa.mk h1;clear h1;by_cases c3:t=true
 ·subst c3;rw [if_pos rfl] at h;obtain ⟨s,h2,h⟩:=By.mp h;obtain ⟨r,h3,h⟩:=By.mp h;simp only [AT,If] at h;obtain ⟨rfl,rfl⟩:=h;have A2:=Aa.mk h2;have A3:=Aa.mk h3;clear h2 h3;have ca:∀ m,((w.drewN m).alloc (Obj.cells #[.int .i64 0] 3)).cell? ⟨w.heap.size,0,none⟩=some (.int .i64 0):=λm=>Ak (heap_alloc_new (w.drewN m) _) 0;have fa:∀ m,((w.drewN m).alloc (Obj.cells #[.int .i64 0] 3)).frozen? ⟨w.heap.size,0,none⟩=false:=λm=>AD (heap_alloc_new (w.drewN m) _) 0;have hmf:∀ (fn:Fn) (first cap:Array Value) (w:World),(Instr.makeFunc fn first cap).run Tryz.prog w=.ok (.func fn first cap) w:=λ_ _ _ _=>rfl;go_enter Tryz.func70,Tryz.ntmps70
  go_wp2_with (first
   | (go_at_call 40;refine (Am.calls k _ _ l0 true _ (by repeat (first | exact HR0.out | (with_reducible refine Kd.C_alloc ?_ _) | (with_reducible refine Kd.C_drewN ?_ _) | (with_reducible refine Kd.C_drew ?_))) HC0.out A1.out).mono ?_;rintro e w1 ⟨rfl,⟨⟨n,rfl⟩⟩⟩)
   | (go_at_call 105;refine (B8.calls k _ _ l0 s _ (by repeat (first | exact HR0.out | (with_reducible refine Kd.C_alloc ?_ _) | (with_reducible refine Kd.C_drewN ?_ _) | (with_reducible refine Kd.C_drew ?_))) HC0.out A2.out).mono ?_;rintro e w1 ⟨rfl,⟨⟨n,rfl⟩⟩⟩)
   | (go_at_call 112;refine (AP.calls BW.step 117 _ Tryz.func117 (by kernel_rfl) rfl #[.pointer (some ⟨w.heap.size,0,none⟩)] w.heap.size (λs w1=>w1.heap[w.heap.size]?=some (.cells #[.int .i64 s] 3 (0,0))) k A0 c0 l0 s r _ ?hm ?ht ?hB ?hr HC0.out ?hs A3.out).mono ?_;(case hm=>exact λs w1 w2 h1 hle h2=>(h2.block _ (by simp at hle;omega)).trans h1);(case ht=>exact λs s' t p q w1 h1 h2=>(by obtain rfl:=AS h2;exact BW.tell _ _ s t p q w1 h1 (Wn _)));(case hB=>simp);(case hr=>exact λw' hb=>Kd.C_below HR0.out (Below.trans (by repeat (first | exact WG _ _ | apply Ad | apply Ac | apply Ae | refine C6 ?_ (Wn _))) hb));(case hs=>exact Ce (heap_alloc_new (w.drewN _) _) 0 _ rfl);rintro e w2 ⟨rfl,hs,hb⟩;have c2:=Ak hs 0;have HB2:=Aa.mk (Below.trans (by repeat (first | exact WG _ _ | apply Ad | apply Ac | apply Ae | refine C6 ?_ (Wn _))) hb:Below w.heap.size w w2);clear hb hs))
  go_ret2;exact ⟨rfl,HB2.out⟩
 ·replace c3:=WJ.mpr c3;subst c3;rw [if_neg (by decide)] at h;simp only [AT,If] at h;obtain ⟨rfl,rfl⟩:=h;go_enter Tryz.func70,Tryz.ntmps70
  go_wp2_with (first
   | (go_at_call 40;refine (Am.calls k _ _ l0 false _ (by repeat (first | exact HR0.out | (with_reducible refine Kd.C_alloc ?_ _) | (with_reducible refine Kd.C_drewN ?_ _) | (with_reducible refine Kd.C_drew ?_))) HC0.out A1.out).mono ?_;rintro e w1 ⟨rfl,⟨⟨n,rfl⟩⟩⟩))
  go_ret2;exact ⟨rfl,by repeat (first | (with_reducible first | exact HB.out | apply Ad | apply Ac | apply Ae) | exact HB.out)⟩
theorem BL.empty (s:ByteArray):s.toList.isEmpty=decide (s.size=0):=by
 rw [Lib.toList_data];have:=FZ s
 cases h:s.data.toList with
 | nil=>rw [h,IS] at this;rw [Wo (by omega)];rfl
 | cons x r=>rw [h,It] at this;rw [Wp (by omega)];rfl
theorem BL.heap_new {W:World} {o:Obj} {g:Nat} (h:g=W.heap.size):(W.alloc o).heap[g]?=some o:=by
 subst h;exact heap_alloc_new W o
theorem BL.tell (g1 g2 B0:Nat) (m:Int) (s:ByteArray) (t:ByteArray) (p q:Int) (w:World) (h:w.heap[g1]?=some (.cells #[.int .i64 m] 3 (0,0))/\w.heap[g2]?=some (.cells #[.string s] 9 (0,0))) (hB:B0<=g2) :
  Calls Tryz.prog 120 #[.string t,.int .i64 p,.int .i64 q,.pointer (some ⟨g1,0,none⟩),.pointer (some ⟨g2,0,none⟩)] w λe w2=>e=.returned (.tuple #[])/\
   (w2.heap[g1]?=some (.cells #[.int .i64 m] 3 (0,0))/\w2.heap[g2]?=some (.cells #[.string (if q=m then (if s.size=0 then t else s) else s)] 9 (0,0)))/\Below B0 w w2:=by
 obtain ⟨h1,h2⟩:=h;have hne:g1≠g2:=by rintro rfl;rw [h1] at h2;simp at h2
 have c1:w.cell? ⟨g1,0,none⟩=some (.int .i64 m):=Ak h1 0;have c0:w.cell? ⟨g2,0,none⟩=some (.string s):=Ak h2 0;have f0:=AD h2 0;have H1:=Aa.mk h1;have H2:=Aa.mk h2;have HN:=Aa.mk hne;clear h1 h2 hne;have he:=BL.empty s;by_cases e1:q=m
 ·have d1:(q==m)=true:=beq_iff_eq.mpr e1;rw [if_pos e1];clear e1;by_cases e2:s.size=0
  ·rw [Wo e2] at he;rw [if_pos e2];clear e2;go_enter Tryz.func120,Tryz.ntmps120;go_wp2;go_end0;exact ⟨rfl,⟨E5 H1.out HN.out _,Ce H2.out 0 _ rfl⟩,(WG _ _).setCell hB _⟩
  ·rw [Wp e2] at he;rw [if_neg e2];clear e2;go_enter Tryz.func120,Tryz.ntmps120;go_wp2;go_end0;exact ⟨rfl,⟨H1.out,H2.out⟩,WG _ _⟩
 ·have d1:(q==m)=false:=beq_eq_false_iff_ne.mpr e1;rw [if_neg e1];clear e1;go_enter Tryz.func120,Tryz.ntmps120;go_wp2;go_end0;exact ⟨rfl,⟨H1.out,H2.out⟩,WG _ _⟩
theorem BL.calls (k:Nat) (A0:Option Addr) (c0:Nat) (l0:List Int) (r1:ByteArray) (r2:Bool) (w:World) (hr0:Kd.C (Kd.int .i64) w A0 l0.length l0) (hc0:l0.length<=c0) (h:BL.f k l0=some (r1,r2)) :
  Calls Tryz.prog 73 #[.slice A0 l0.length c0] w λe w'=>e=.returned (.tuple #[.string r1,.bool r2])/\Below w.heap.size w w':=by
 have HR0:=Aa.mk hr0;have HC0:=Aa.mk hc0;clear hr0 hc0;have HB:=Aa.mk (WG w.heap.size w);obtain ⟨⟨m,t⟩,h1,h⟩:=By.mp h;have A1:=Aa.mk h1;clear h1;have hmf:∀ (fn:Fn) (first cap:Array Value) (w:World),(Instr.makeFunc fn first cap).run Tryz.prog w=.ok (.func fn first cap) w:=λ_ _ _ _=>rfl;by_cases c3:t=true
 ·subst c3;rw [if_pos rfl] at h;obtain ⟨r,h3,h⟩:=By.mp h;simp only [AT,If] at h;obtain ⟨rfl,rfl⟩:=h;have A3:=Aa.mk h3;clear h3;go_enter Tryz.func73,Tryz.ntmps73
  go_wp2_with (first
   | (go_at_call 70;refine (BW.calls k _ _ l0 m true _ HR0.out HC0.out A1.out).mono ?_;rintro e w1 ⟨rfl,hb⟩;have HB1:=Aa.mk hb;have c1:(w1.alloc (Obj.cells #[.int .i64 0] 3)).cell? ⟨w1.heap.size,0,none⟩=some (.int .i64 0):=Ak (heap_alloc_new w1 _) 0;have f1:(w1.alloc (Obj.cells #[.int .i64 0] 3)).frozen? ⟨w1.heap.size,0,none⟩=false:=AD (heap_alloc_new w1 _) 0;clear hb))
  refine (AP.calls (BL.step m) 120 _ Tryz.func120 (by kernel_rfl) rfl #[.pointer (some ⟨w1.heap.size,0,none⟩),.pointer (some ⟨w1.heap.size+1,0,none⟩)] w.heap.size (λs w2=>w2.heap[w1.heap.size]?=some (.cells #[.int .i64 m] 3 (0,0))/\w2.heap[w1.heap.size+1]?=some (.cells #[.string s] 9 (0,0))) k A0 c0 l0 ⟨#[]⟩ r _ ?hm ?ht ?hB ?hr HC0.out ?hs A3.out).mono ?_
  case hm=>exact λs w1 w2 h1 hle h2=>⟨(h2.block _ (by simp at hle;omega)).trans h1.1,(h2.block _ (by simp at hle;omega)).trans h1.2⟩
  case ht=>exact λs s' t p q w1 h1 h2=>(by obtain rfl:=AS h2;exact BL.tell _ _ _ m s t p q w1 h1 (by have:=HB1.out.size;omega))
  case hB=>have:=HB1.out.size;simp;omega
  case hr=>exact λw' hb=>Kd.C_below HR0.out (Below.trans (Ad (Ad HB1.out _) _) hb)
  case hs=>exact ⟨B3 (heap_alloc_new w1 _) _,BL.heap_new (by simp)⟩
  rintro e w2 ⟨rfl,hs,hb⟩;have c2:=Ak hs.2 0;have HB2:=Aa.mk (Below.trans (Ad (Ad HB1.out _) _) hb:Below w.heap.size w w2);clear hb hs;go_wp2;go_ret2;exact ⟨rfl,HB2.out⟩
 ·replace c3:=WJ.mpr c3;subst c3;rw [if_neg (by simp)] at h;simp only [AT,If] at h;obtain ⟨rfl,rfl⟩:=h;go_enter Tryz.func73,Tryz.ntmps73
  go_wp2_with (first
   | (go_at_call 70;refine (BW.calls k _ _ l0 m false _ HR0.out HC0.out A1.out).mono ?_;rintro e w1 ⟨rfl,hb⟩;have HB1:=Aa.mk hb;have c1:(w1.alloc (Obj.cells #[.int .i64 0] 3)).cell? ⟨w1.heap.size,0,none⟩=some (.int .i64 0):=Ak (heap_alloc_new w1 _) 0;have f1:(w1.alloc (Obj.cells #[.int .i64 0] 3)).frozen? ⟨w1.heap.size,0,none⟩=false:=AD (heap_alloc_new w1 _) 0;clear hb))
  go_ret2;exact ⟨rfl,by repeat (first | exact HB1.out | apply Ad | refine C6 ?_ HB1.out.size)⟩
theorem Hs.calls (g cap base:Nat) (s:List Int) (w:World) (h:Kd.R (Kd.int .i64) 3 w base (λ_=>True) (.slice (some ⟨g,0,none⟩) s.length cap) s) (h2:s.length<2000) :
  Calls Tryz.prog 103 #[.slice (some ⟨g,0,none⟩) s.length cap] w λe w'=>e=.returned (.tuple #[])/\Kd.R (Kd.int .i64) 3 w' base (λ_=>True) (.slice (some ⟨g,0,none⟩) s.length cap) (s.mergeSort (λx y=>decide (x<=y)))/\w.grownBy w' (some g):=by
 rcases (Kd.own_of_R h).2 with ⟨q0,_⟩ | ⟨g1,cap1,cur,q1,q2,q3,q4,q5,q6,q7⟩
 ·cases q0
 cases q1;have hsl:(s.mergeSort (λx y=>decide (x<=y))).length=s.length:=List.length_mergeSort _;have hH:Go.Sort.Holds (Value.int .i64) w g 0 s.toArray:=holds_of_blockI q3 (by rw [Nat.mul_one] at q7;exact q7);refine (Go.Proofs.YtlgojeodceiglaaGreatDoor.Shelf.Tryz.slices_Sort_int g 0 cap s w hH (Dp q3) (by omega)).mono ?_;rintro e w3 ⟨rfl,n,os,rfl⟩;exact ⟨rfl,Kd.R_of_own (by rw [hsl];exact ownsRow_sortedI hsl q2 q3 q4 q5 q6) (λ_ _=>trivial),grownBy_sortedI _⟩
theorem Gw.calls (g cap base:Nat) (s:List Int) (w:World) (h:Kd.R (Kd.int .i64) 3 w base (λ_=>True) (.slice (some ⟨g,0,none⟩) s.length cap) s) (h2:s.length<2000) :
  Calls Tryz.prog 115 #[.slice (some ⟨g,0,none⟩) s.length cap] w λe w'=>e=.returned (.slice (some ⟨g,0,none⟩) (Lib.compact s).length cap)/\Kd.R (Kd.int .i64) 3 w' base (λ_=>True) (.slice (some ⟨g,0,none⟩) (Lib.compact s).length cap) (Lib.compact s)/\w.grownBy w' (some g):=by
 rcases (Kd.own_of_R h).2 with ⟨q0,_⟩ | ⟨g1,cap1,cur,q1,q2,q3,q4,q5,q6,q7⟩
 ·cases q0
 cases q1;have hle:=Lib.compact_length_le s;have hH:Go.Sort.Holds (Value.int .i64) w g 0 s.toArray:=holds_of_blockI q3 (by rw [Nat.mul_one] at q7;exact q7);refine (Go.Proofs.YtlgojeodceiglaaGreatDoor.Shelf.Tryz.slices_Compact_int g 0 cap s w hH (by omega) q4).mono ?_;rintro e w3 ⟨rfl,n,rfl⟩;have e0:∀ W:World,Go.Sort.grow W #[]=W:=λW=>by simp [Go.Sort.grow]
 have hh:=heap_sortedI (w:=w) (g:=g) (n:=n) (os:=#[]) (Lib.compact s++List.replicate (s.length-(Lib.compact s).length) 0).toArray q3;have hgr:=grownBy_sortedI (w:=w) (g:=g) (n:=n) (os:=#[]) (Lib.compact s++List.replicate (s.length-(Lib.compact s).length) 0).toArray;rw [e0] at hh hgr
 have hlen:(Lib.compact s++List.replicate (s.length-(Lib.compact s).length) 0).length=s.length:=by
  rw [IN,OF];omega
 have ht:=take_putCellsI cur (Lib.compact s++List.replicate (s.length-(Lib.compact s).length) 0) (by rw [hlen];omega);refine ⟨rfl,Kd.R_of_own ⟨by simp [encs],.inr ⟨g,cap,_,rfl,q2,hh,by omega,q5,by simp [Go.Sort.putCells,q6],?_⟩⟩ (λ_ _=>trivial),hgr⟩;rw [Nat.mul_one];have h3:=WL (List.take (Lib.compact s).length) ht;have e2:List.take (Lib.compact s).length (List.map (Value.int .i64) (Lib.compact s))=List.map (Value.int .i64) (Lib.compact s):=List.take_of_length_le (by simp);rw [List.take_take,hlen,Nat.min_eq_left hle,List.map_append,List.take_append_of_le_length (by simp),e2] at h3;exact h3
theorem Hr.calls (A:Option Addr) (n c:Nat) (w:World) (h:n<=c) (hn:n<2000) :
  Calls Tryz.prog 114 #[.slice A n c] w λe w'=>e=.returned (.slice A n n)/\w'=w:=by
 have hu:=Tryz.underlying32;have h1:(0:Int)<=(n:Int):=by omega
 have h2:(n:Int)<=(c:Int):=by omega
 have h3:(n:Int)<=(n:Int):=by omega
 go_enter Tryz.func114,Tryz.ntmps114;go_wp2;go_ret;exact ⟨rfl,rfl⟩
def Ba.R (gf:Nat) (w0:World) (s:List Int) (w1:World):Prop:=Below w0.heap.size w0 w1/\∃ A c,w1.heap[gf]?=some (.cells #[.slice A s.length c] 32 (0,0))/\Kd.R (Kd.int .i64) 3 w1 w0.heap.size (λ_=>True) (.slice A s.length c) s
theorem Ba.moves {gf:Nat} {w0 w1 w2:World} {s:List Int} (h:Ba.R gf w0 s w1) (hb:Below w1.heap.size w1 w2):Ba.R gf w0 s w2:=by
 obtain ⟨h1,A,c,h2,h3⟩:=h;exact ⟨Bt h1 hb,A,c,Bl h2 hb,Kd.R_below h3 hb⟩
theorem Ba.tell (gf:Nat) (w0:World) (s s':List Int) (t:ByteArray) (p q:Int) (w1:World) (hg:w0.heap.size<=gf) (hR:Ba.R gf w0 s w1) (h:Ba.step s t p q=some s') :
  Calls Tryz.prog 113 #[.string t,.int .i64 p,.int .i64 q,.pointer (some ⟨gf,0,none⟩)] w1 λe w2=>e=.returned (.tuple #[])/\Ba.R gf w0 s' w2/\Below w0.heap.size w1 w2:=by
 have HRR:=Aa.mk hR;obtain ⟨hR1,A,c,hR2,hR3⟩:=hR;have HR1:=Aa.mk hR1;have HR2:=Aa.mk hR2;have HR3:=Aa.mk hR3;have HG:=Aa.mk hg;have c0_:_=some _:=Ak hR2 0;have f0_:=AD hR2 0;clear hR1 hR2 hR3 hg;unfold Ba.step at h;by_cases hp:0<=p
 ·rw [if_pos hp] at h;have hpb:decide (0<=p)=true:=Wo hp;have hpe:=eq_true hp;clear hp;by_cases hl:s.length<1000
  ·rw [if_pos hl] at h;obtain rfl:=AS h;have HL:=Aa.mk hl
   obtain ⟨u,hu⟩:∃ y_:List Int,y_=s++[p]:=⟨_,rfl⟩
   rw [<- hu];have NU:=Aa.mk hu;clear h hl hu;go_enter Tryz.func113,Tryz.ntmps113
   go_wp2_with (first
    | ((with_reducible refine DD (b:=.append) (xs:=#[.tmp 9,.tmp 11]) rfl ?_);at_builtin;refine Kd.R_append (Kd.int .i64) (w0:=w0) w0.heap.size rfl (.tmp 9) (.tmp 11) 32 3 (.int .i64 0) 8 rfl Tryz.underlying32 info3 rfl (by decide) (by omega) (.slice A s.length c) s p [.int .i64 p] (λ_=>True) (λ_=>False) rfl rfl ?aP (λ_ hk=>hk.elim) ?aF ?aO ?aB ?aS ?aL ?_;(case aP=>exact rfl);(case aB=>exact (by repeat (first | (with_reducible first | exact HR1.out | apply Ad | apply Ac | apply Ae) | exact HR1.out)));(case aF=>exact (λ_ _=>trivial));(case aO=>exact (by (with_reducible repeat (first | apply Kd.R_alloc | apply Kd.R_drewN | apply Kd.R_drew));exact HR3.out));(case aS=>exact (Below.size (by repeat (first | (with_reducible first | exact HR1.out | apply Ad | apply Ac | apply Ae) | exact HR1.out))));(case aL=>have:=HL.out;omega);intro v161 w16 ho hb hg hat;rw [<- NU.out] at ho;obtain ⟨A1,c1,rfl⟩:=Kd.R_slice ho;have hk:=CU HR2.out hg (Kd.R_ne HR3.out HR2.out (by decide));have HK:=Aa.mk hk;have ck:_=some _:=Ak hk 0;have fk:=AD hk 0;have HO:=Aa.mk ho;have HB:=Aa.mk hb;have HB2:=Aa.mk (Du (WG w0.heap.size w1) _ HR1.out.size hg (Kd.R_base HR3.out));clear hk ho hb hg hat))
   go_end0;exact ⟨rfl,⟨C6 HB.out HG.out,A1,c1,Ce HK.out 0 _ rfl,Kd.R_set HO.out HK.out (by decide) 0 _⟩,HB2.out.setCell HG.out _⟩
  ·rw [if_neg hl] at h;exact absurd h (by simp)
 ·rw [if_neg hp] at h;have hpb:decide (0<=p)=false:=Wp hp;obtain rfl:=AS h;clear h hp;go_enter Tryz.func113,Tryz.ntmps113;go_wp2;go_end0;exact ⟨rfl,HRR.out,WG _ _⟩
theorem Ba.calls (k:Nat) (A0:Option Addr) (c0:Nat) (l0:List Int) (r1:List Int) (r2:Bool) (w:World) (hr0:Kd.C (Kd.int .i64) w A0 l0.length l0) (hc0:l0.length<=c0) (h:Ba.f k l0=some (r1,r2)) :
  Calls Tryz.prog 67 #[.slice A0 l0.length c0] w λe w'=>∃ v0_:Value,e=.returned (.tuple #[v0_,.bool r2])/\Kd.V (Kd.int .i64) 3 w' w.heap.size (λk_=>(w.heap.size<=k_)) v0_ r1/\Below w.heap.size w w':=by
 have HR0:=Aa.mk hr0;have HC0:=Aa.mk hc0;clear hr0 hc0;have HB:=Aa.mk (WG w.heap.size w);obtain ⟨t,h1,h⟩:=By.mp h;have A1:=Aa.mk h1;clear h1;by_cases c3:t=true
 ·subst c3;rw [if_pos rfl] at h;obtain ⟨s,h3,h⟩:=By.mp h;by_cases c4:0<s.length/\s.length<2000
  ·rw [if_pos c4] at h;simp only [AT,If] at h;obtain ⟨rfl,rfl⟩:=h
   obtain ⟨y0,hy0⟩:∃ y_:List Int,y_=([]:List Int):=⟨_,rfl⟩
   rw [<- hy0] at h3;have NY:=Aa.mk hy0;have A3:=Aa.mk h3;have HP:=Aa.mk c4;have hsl:(s.mergeSort (λx y=>decide (x<=y))).length=s.length:=List.length_mergeSort _
   obtain ⟨u,hu⟩:∃ u,u=s.mergeSort (λx y=>decide (x<=y)):=⟨_,rfl⟩
   rw [<- hu] at hsl ⊢;have NU:=Aa.mk hu;have HSL:=Aa.mk hsl;have HCL:=Aa.mk (Lib.compact_length_le u);clear h3 c4 hy0 hu hsl;have hmf:∀ (fn:Fn) (first cap:Array Value) (w:World),(Instr.makeFunc fn first cap).run Tryz.prog w=.ok (.func fn first cap) w:=λ_ _ _ _=>rfl;go_enter Tryz.func67,Tryz.ntmps67
   go_wp2_with (first
    | (go_at_call 40;refine (Am.calls k _ _ l0 true _ (by repeat (first | exact HR0.out | (with_reducible refine Kd.C_drewN ?_ _) | (with_reducible refine Kd.C_drew ?_))) HC0.out A1.out).mono ?_;rintro e w1 ⟨rfl,⟨⟨n,rfl⟩⟩⟩)
    | ((with_reducible refine Er (N:=8) rfl ?_);refine Kd.R_lit (Kd.int .i64) _ 3 ?hg (N:=8) ?hd (xs:=([]:List Int)) (inner:=[]) (ok:=λ_=>True) (okp:=λ_=>True) ?hr ?hp (λ_ hk=>hk) trivial (WG _ _) (Wn _) (by simp) ?_;(case hd=>rfl);(case hg=>rfl);(case hr=>first | (go_simp;done) | (go_simp;rfl));(case hp=>exact (Reps.none _ _));intro v8 w8 ho hb hg_ hnew_;clear hg_ hnew_;rw [<- NY.out] at ho;have HO:=Aa.mk (Kd.R_lower ho (CO (by repeat (first | exact HB.out | apply Ad | apply Ac | apply Ae))));have n1_:=Aa.mk (Bt (by repeat (first | exact HB.out | apply Ad | apply Ac | apply Ae)) hb);clear HB;have HB:=n1_;clear n1_ ho hb;obtain ⟨A8,c8,rfl⟩:=Kd.R_slice HO.out)
    | ((with_reducible refine Er (N:=4) rfl ?_);refine I1 ?hg (N:=4) ?hd (cs:=#[.slice none 0 0]) (t:=32) ?hr ?_;(case hd=>rfl);(case hg=>rfl);(case hr=>first | (go_simp;done) | (go_simp;rfl));intro gf hg w3 hbox hb;have GE:=Aa.mk (show w.heap.size<=gf by rw [hg];exact HB.out.size);have n0_:=Aa.mk (Bt HB.out hb);have n2_:=Aa.mk (Kd.R_below HO.out hb);have BK:=Aa.mk hbox;have cg:_=some _:=Ak hbox 0;have fg:=AD hbox 0;clear hg hb hbox HB HO;have HB:=n0_;have HO:=n2_;clear n0_ n2_)
    | (go_at_call 112;refine (AP.calls Ba.step 113 _ Tryz.func113 (by kernel_rfl) rfl #[.pointer (some ⟨gf,0,none⟩)] w.heap.size (Ba.R gf w) k A0 c0 l0 y0 s _ ?hm ?ht ?hB ?hr HC0.out ?hs A3.out).mono ?_;(case hm=>exact λs w1 w2 h1 _ h2=>Ba.moves h1 h2);(case ht=>exact λs s' t p q w1 h1 h2=>Ba.tell gf w s s' t p q w1 GE.out h1 h2);(case hB=>exact (C6 HB.out GE.out).size);(case hr=>exact λw' hb=>Kd.C_below HR0.out (Below.trans (C6 HB.out GE.out) hb));(case hs=>exact ⟨C6 HB.out GE.out,A8,c8,Ce BK.out 0 _ rfl,Kd.R_set HO.out BK.out (by decide) 0 _⟩);rintro e w4 ⟨rfl,hs,hb⟩;obtain ⟨hs1,A9,c9,hs2,hs3⟩:=hs;obtain ⟨g9,cap9,hv9,_,_,_,_⟩:=Kd.R_form hs3 HP.out.1;cases hv9;have c9_:_=some _:=Ak hs2 0;have n0_:=Aa.mk hs1;have n1_:=Aa.mk hs2;have n2_:=Aa.mk hs3;clear HB HO BK cg fg hb hs1 hs2 hs3;have HB:=n0_;have BK:=n1_;have HO:=n2_;clear n0_ n1_ n2_)
    | (go_at_call 103;refine (Hs.calls g9 c9 w.heap.size s _ HO.out HP.out.2).mono ?_;rintro e w5 ⟨rfl,hr5,hg5⟩;rw [<- NU.out,<- HSL.out] at hr5;have n0_:=Aa.mk (Du HB.out _ HB.out.size hg5 (Kd.R_base HO.out));have hk:=CU BK.out hg5 (Kd.R_ne HO.out BK.out (by decide));rw [<- HSL.out] at hk;have n1_:=Aa.mk hk;have n2_:=Aa.mk hr5;have c10_:_=some _:=Ak hk 0;clear HB HO BK c9_ hr5 hg5 hk;have HB:=n0_;have BK:=n1_;have HO:=n2_;clear n0_ n1_ n2_)
    | (go_at_call 115;refine (Gw.calls g9 c9 w.heap.size u _ HO.out (by rw [HSL.out];exact HP.out.2)).mono ?_;rintro e w6 ⟨rfl,hr6,hg6⟩;have n0_:=Aa.mk (Du HB.out _ HB.out.size hg6 (Kd.R_base HO.out));have n2_:=Aa.mk hr6;clear HB HO BK hr6 hg6;have HB:=n0_;have HO:=n2_;clear n0_ n2_)
    | (go_at_call 114;refine (Hr.calls _ _ _ _ (Kd.R_reads' HO.out).2.1 (by have:=HCL.out;have:=HSL.out;have:=HP.out.2;omega)).mono ?_;rintro e w7 ⟨rfl,rfl⟩))
   go_ret2;exact ⟨_,rfl,Kd.V_mk (Wn _) (Kd.F_mono (Kd.R_F (Kd.R_bound HO.out)) (λk hk=>hk.2.1)),HB.out⟩
  ·rw [if_neg c4] at h;exact absurd h (by simp)
 ·replace c3:=WJ.mpr c3;subst c3;rw [if_neg (by decide)] at h;simp only [AT,If] at h;obtain ⟨rfl,rfl⟩:=h;go_enter Tryz.func67,Tryz.ntmps67
  go_wp2_with (first
   | (go_at_call 40;refine (Am.calls k _ _ l0 false _ (by repeat (first | exact HR0.out | (with_reducible refine Kd.C_drewN ?_ _) | (with_reducible refine Kd.C_drew ?_))) HC0.out A1.out).mono ?_;rintro e w1 ⟨rfl,⟨⟨n,rfl⟩⟩⟩))
  go_ret2;exact ⟨_,rfl,Kd.V_nil _ _ _ _ _,by repeat (first | (with_reducible first | exact HB.out | apply Ad | apply Ac | apply Ae) | exact HB.out)⟩
theorem Ai.t0 {S:Type} (step:S->List Int->Option S) (k:Nat) (a l:List Int) (m i:Int) (s:S):Ai.t step (k+1) 0 a l m i s=if (l.length:Int)=(a.length:Int) then ((AZ.f k a l m).bind λb=>if b=true then step s l else some s) else Ai.t step k 1 a l m (-1) s:=rfl
theorem Ai.t1 {S:Type} (step:S->List Int->Option S) (k:Nat) (a l:List Int) (m i:Int) (s:S):Ai.t step (k+1) 1 a l m i s=if i<=m then (if 0<=i then ((BB.f k l i).bind λc=>if c=3 then Ai.t step k 1 a l m (wrap64 (i+1)) s else Ai.t step k 2 a l m i s) else Ai.t step k 2 a l m i s) else some s:=rfl
theorem Ai.t2 {S:Type} (step:S->List Int->Option S) (k d:Nat) (a l:List Int) (m i:Int) (s:S):Ai.t step (k+1) (d+2) a l m i s=if l.length<1000 then ((if i=m then Ai.t step k 0 a (l++[i]) (wrap64 (m+1)) 0 s else Ai.t step k 0 a (l++[i]) m 0 s).bind λs'=>Ai.t step k 1 a l m (wrap64 (i+1)) s') else none:=rfl
structure Ai.I {S:Type} (K:Nat) (caps:Array Value) (A0:Option Addr) (n0 c0 B0 B1 gl ga gt gy:Nat) (R:S->(Nat->Prop)->World->Prop) (w0 w:World) (l:List Int) (s:S):Prop where
 row:∃ A c,w.heap[gl]?=some (.cells #[.slice A l.length c] 32 (0,0))/\l.length<=c/\∃ M:Nat->Prop,Kd.R (Kd.int .i64) 3 w B1 (λk=>¬ M k) (.slice A l.length c) l/\R s M w/\∀ k,M k->k<w.heap.size/\k≠gl
 arg:w.heap[ga]?=some (.cells #[.slice A0 n0 c0] 32 (0,0))
 tel:w.heap[gt]?=some (.cells #[.func (.func K) #[] caps] 108 (0,0))
 try_:w.heap[gy]?=some (.cells #[.func (.func 187) #[] #[.pointer (some ⟨gl,0,none⟩),.pointer (some ⟨ga,0,none⟩),.pointer (some ⟨gt,0,none⟩),.pointer (some ⟨gy,0,none⟩)]] 124 (0,0))
 low:Below B0 w0 w
 siz:B1<=w.heap.size
section
variable {S:Type} {K:Nat} {caps:Array Value} {A0:Option Addr} {n0 c0 B0 B1 gl ga gt gy:Nat} {R:S->(Nat->Prop)->World->Prop} {w0 w w1:World} {l:List Int} {s s':S}
theorem Ai.I.below (h:Ai.I K caps A0 n0 c0 B0 B1 gl ga gt gy R w0 w l s) (hmove:∀ s M w1 w2,R s M w1->Below B1 w1 w2->(∀ k,M k->w2.heap[k]?=w1.heap[k]?)->R s M w2) (hB:B0<=B1) (hb:Below w.heap.size w w1):Ai.I K caps A0 n0 c0 B0 B1 gl ga gt gy R w0 w1 l s:=by
 obtain ⟨⟨A,c,h1,h2,M,h3,hs,hm⟩,ha,ht,hy,hl,hz⟩:=h;exact ⟨⟨A,c,Bl h1 hb,h2,M,Kd.R_below h3 hb,hmove _ _ _ _ hs (Below.mono hb hz) (λk hk=>hb.block k (hm k hk).1),λk hk=>⟨WK (hm k hk).1 hb.size,(hm k hk).2⟩⟩,Bl ha hb,Bl ht hb,Bl hy hb,hl.trans (Below.mono hb (WA hB hz)),WA hz hb.size⟩
theorem Ai.I.told {M:Nat->Prop} {A:Option Addr} {c:Nat} (q1:w.heap[gl]?=some (.cells #[.slice A l.length c] 32 (0,0))) (q2:l.length<=c) (q3:Kd.R (Kd.int .i64) 3 w B1 (λk=>¬ M k) (.slice A l.length c) l) (hm:∀ k,M k->k<w.heap.size/\k≠gl) (h:Ai.I K caps A0 n0 c0 B0 B1 gl ga gt gy R w0 w l s) (h1:B1<=gl) (h2:B1<=ga) (h3:B1<=gt) (h4:B1<=gy) (hs:∃ M',R s' M' w1/\∀ k,M' k->(M k\/w.heap.size<=k)/\k<w1.heap.size) (hb:Below B0 w w1) (hk:∀ k,B1<=k->k<w.heap.size->w1.heap[k]?=w.heap[k]?):Ai.I K caps A0 n0 c0 B0 B1 gl ga gt gy R w0 w1 l s':=by
 obtain ⟨_,ha,ht,hy,hl,hz⟩:=h;obtain ⟨M',hs,hm'⟩:=hs;refine ⟨⟨A,c,(hk _ h1 (Dp q1)).trans q1,q2,M',Kd.R_mono (Kd.R_step (Kd.R_bound q3) (λk h _=>hk k h.2.1 h.2.2.1)) (λk hk hq=>?_),hs,λk hq=>⟨(hm' k hq).2,λhe=>?_⟩⟩,(hk _ h2 (Dp ha)).trans ha,(hk _ h3 (Dp ht)).trans ht,(hk _ h4 (Dp hy)).trans hy,hl.trans hb,WA hz hb.size⟩
 ·rcases (hm' k hq).1 with h | h
  ·exact hk.1 h
  ·have:=hk.2.2.1;omega
 ·have:=Dp q1;rcases (hm' k hq).1 with h | h
  ·exact (hm k h).2 he
  ·omega
theorem Ai.I.put {v:Value} (h:w.heap[gl]?=some (.cells #[v] 32 (0,0))) (ha:w.heap[ga]?=some (.cells #[.slice A0 n0 c0] 32 (0,0))) (hga:ga≠gl)
  (ht:w.heap[gt]?=some (.cells #[.func (.func K) #[] caps] 108 (0,0)))
  (hy:w.heap[gy]?=some (.cells #[.func (.func 187) #[] #[.pointer (some ⟨gl,0,none⟩),.pointer (some ⟨ga,0,none⟩),.pointer (some ⟨gt,0,none⟩),.pointer (some ⟨gy,0,none⟩)]] 124 (0,0)))
  (hmove:∀ s M w1 w2,R s M w1->Below B1 w1 w2->(∀ k,M k->w2.heap[k]?=w1.heap[k]?)->R s M w2) {M:Nat->Prop} (hs:R s M w) (hm:∀ k,M k->k<w.heap.size/\k≠gl) (hl:Below B0 w0 w) (hz:B1<=w.heap.size) (hg:B1<=gl) (hB:B0<=B1)
  {A:Option Addr} {c:Nat} (hc:l.length<=c) (hr:Kd.R (Kd.int .i64) 3 w B1 (λk=>¬ M k) (.slice A l.length c) l):Ai.I K caps A0 n0 c0 B0 B1 gl ga gt gy R w0 (w.setCell ⟨gl,0,none⟩ (.slice A l.length c)) l s:=by
 have b1:Below B1 w (w.setCell ⟨gl,0,none⟩ (.slice A l.length c)):=(WG _ _).setCell hg _;have n1:gt≠gl:=Gl ht h (by decide);have n2:gy≠gl:=Gl hy h (by decide);exact ⟨⟨A,c,Ce h 0 _ rfl,hc,M,Kd.R_set hr h (by decide) 0 _,hmove _ _ _ _ hs b1 (λk hk=>Below.heap_setCell _ _ _ k (hm k hk).2),λk hk=>⟨by simpa [World.setCell] using (hm k hk).1,(hm k hk).2⟩⟩,E5 ha hga _,E5 ht n1 _,E5 hy n2 _,hl.trans (Below.mono b1 hB),by simpa [World.setCell] using hz⟩
theorem Ai.I.state (h:Ai.I K caps A0 n0 c0 B0 B1 gl ga gt gy R w0 w l s):∃ M,R s M w:=by
 obtain ⟨⟨A,c,_,_,M,_,hs,_⟩,_⟩:=h;exact ⟨M,hs⟩
end
theorem Ai.tries {S:Type} (step:S->List Int->Option S) (K:Nat) (fn:Func) (hK:Tryz.prog.funcs[K]?=some fn) (hKn:(fn.name== "runtime.NumGoroutine")=false) (hKb:fn.body.isSome=true) (caps:Array Value) (a:List Int) (A0:Option Addr) (c0 B0 B1 gl ga gt gy:Nat) (R:S->(Nat->Prop)->World->Prop) (w0:World)
  (hmove:∀ s M w1 w2,R s M w1->Below B1 w1 w2->(∀ k,M k->w2.heap[k]?=w1.heap[k]?)->R s M w2)
  (htell:∀ s s' M xs A c w1,R s M w1->(∀ k,M k->k<w1.heap.size)->B1<=w1.heap.size->Kd.C (Kd.int .i64) w1 A xs.length xs->xs.length<=c->step s xs=some s'->Calls Tryz.prog K (#[.slice A xs.length c]++caps) w1 λe w2=>e=.returned (.tuple #[])/\(∃ M',R s' M' w2/\∀ k,M' k->(M k\/w1.heap.size<=k)/\k<w2.heap.size)/\Below B0 w1 w2/\∀ k,B1<=k->k<w1.heap.size->w2.heap[k]?=w1.heap[k]?)
  (h1:B1<=gl) (h2:B1<=ga) (h3:B1<=gt) (h4:B1<=gy) (h5:ga≠gl) (hB:B0<=B1) (hr0:∀ w',Below B0 w0 w'->Kd.C (Kd.int .i64) w' A0 a.length a/\TabW w') (hc0:a.length<=c0) :
  ∀ (k:Nat) (l:List Int) (m:Int) (s s':S) (w:World),Ai.t step k 0 a l m 0 s=some s'->Ai.I K caps A0 a.length c0 B0 B1 gl ga gt gy R w0 w l s->
  Calls Tryz.prog 187 #[.int .i64 m,.pointer (some ⟨gl,0,none⟩),.pointer (some ⟨ga,0,none⟩),.pointer (some ⟨gt,0,none⟩),.pointer (some ⟨gy,0,none⟩)] w λe w'=>e=.returned (.tuple #[])/\Ai.I K caps A0 a.length c0 B0 B1 gl ga gt gy R w0 w' l s':=by
 have HM:=Aa.mk hmove;have HT:=Aa.mk htell;have HG:=Aa.mk (And.intro h1 (And.intro h2 (And.intro h3 (And.intro h4 (And.intro h5 (And.intro hB hc0))))));have HKn:=Aa.mk (And.intro hK (And.intro hKn hKb));have HR:=Aa.mk hr0;clear hmove htell h1 h2 h3 h4 h5 hB hc0 hK hKn hKb hr0;intro k
 induction k using Nat.strongRecOn with
 | ind k ih0=>
 intro l m s s' w h hI;have IH:=Aa.mk ih0;clear ih0;have HI:=Aa.mk hI;clear hI
 cases k with
 | zero=>simp [Ai.t] at h
 | succ k=>
  rw [Ai.t0] at h
  by_cases h0:(l.length:Int)=(a.length:Int)
  ·rw [if_pos h0] at h;have e0:((l.length:Int)==(a.length:Int))=true:=beq_iff_eq.mpr h0;clear h0;obtain ⟨b,hb,h⟩:=By.mp h;have HF:=Aa.mk hb;clear hb;obtain ⟨⟨A,c,g1,g2,M,g3,gs_,gm_⟩,ga_,gt_,gy_,gl_,gz_⟩:=HI.out;have GM:=Aa.mk gm_;clear gm_;have cl:_=some _:=Ak g1 0;have fl:=AD g1 0;have ca:_=some _:=Ak ga_ 0;have ct:_=some _:=Ak gt_ 0;have cy:_=some _:=Ak gy_ 0;have GR:=Aa.mk (Kd.R_reads' g3).2.2;have GC:=Aa.mk g2;have GB:=Aa.mk gl_;clear g1 g2 g3 ga_ gt_ gy_ gs_ gl_ gz_;by_cases hb:b=true
   ·subst hb;rw [if_pos rfl] at h;have H:=Aa.mk h;clear h;go_enter Tryz.func187,Tryz.ntmps187
    go_wp2_with (first
     | (go_at_call 188;refine (AZ.calls k _ _ a _ _ l m true _ (HR.out _ GB.out).1 HG.out.2.2.2.2.2.2 GR.out GC.out HF.out (HR.out _ GB.out).2).mono ?_;rintro e w1 ⟨rfl,hb⟩;have HI2:=Aa.mk (HI.out.below HM.out HG.out.2.2.2.2.2.1 hb);clear hb;obtain ⟨⟨A',c',q1,q2,M2,q3,qs,qm⟩,qa,qt,qy,ql,qz⟩:=HI2.out;have GQ:=Aa.mk (And.intro q1 (And.intro q2 (And.intro q3 qm)));have GR2:=Aa.mk (Kd.R_reads' q3).2.2;have GC2:=Aa.mk q2;have GZ2:=Aa.mk qz;have GS2:=Aa.mk qs;have dl:_=some _:=Ak q1 0;have dt:_=some _:=Ak qt 0;clear q1 q2 q3 qm qa qt qy qs ql qz))
    rw [Hb HKn.out.1 HKn.out.2.1 HKn.out.2.2,Oper.upon_enter];refine (HT.out s s' M2 l A' c' w1 GS2.out (λk hk=>(GQ.out.2.2.2 k hk).1) GZ2.out GR2.out GC2.out H.out).mono ?_;rintro e w2 ⟨rfl,hs2,hb2,hk2⟩;have HI3:=Aa.mk (Ai.I.told GQ.out.1 GQ.out.2.1 GQ.out.2.2.1 GQ.out.2.2.2 HI2.out HG.out.1 HG.out.2.1 HG.out.2.2.1 HG.out.2.2.2.1 hs2 hb2 hk2);clear hs2 hb2 hk2;go_wp2;refine bodyPost_ret (results_none rfl _ _ _) rfl ?_;exact ⟨rfl,HI3.out⟩
   ·replace hb:=WJ.mpr hb;subst hb;rw [if_neg (by decide)] at h;obtain rfl:=AS h;clear h;go_enter Tryz.func187,Tryz.ntmps187
    go_wp2_with (first
     | (go_at_call 188;refine (AZ.calls k _ _ a _ _ l m false _ (HR.out _ GB.out).1 HG.out.2.2.2.2.2.2 GR.out GC.out HF.out (HR.out _ GB.out).2).mono ?_;rintro e w1 ⟨rfl,hb⟩;have HI2:=Aa.mk (HI.out.below HM.out HG.out.2.2.2.2.2.1 hb);clear hb))
    refine bodyPost_ret (results_none rfl _ _ _) rfl ?_;exact ⟨rfl,HI2.out⟩
  ·rw [if_neg h0] at h;have e0:((l.length:Int)==(a.length:Int))=false:=beq_eq_false_iff_ne.mpr h0;clear h0;obtain ⟨⟨A,c,g1,g2,M,g3,gs_,gm_⟩,ga_,gt_,gy_,gl_,gz_⟩:=HI.out;have GM:=Aa.mk gm_;clear gm_;have cl:_=some _:=Ak g1 0;have fl:=AD g1 0;have ca:_=some _:=Ak ga_ 0;have ct:_=some _:=Ak gt_ 0;have cy:_=some _:=Ak gy_ 0;clear g1 g2 g3 ga_ gt_ gy_ gs_ gl_ gz_;have H:=Aa.mk h;clear h;go_enter Tryz.func187,Tryz.ntmps187;go_wp2
   go_loopg [6] k (λkq v6 w'=>∃ (i:Int) (s1:S),v6=.int .i64 i/\Aa (Ai.t step kq 1 a l m i s1=some s')/\Aa (kq<=k)/\Aa (Ai.I K caps A0 a.length c0 B0 B1 gl ga gt gy R w0 w' l s1))
   case atStart=>exact ⟨-1,s,(by first | rfl | (simp;done) | (simp [*];done)),H,⟨Wn _⟩,HI⟩
   case round=>
    clear H HI cl fl ca ct cy
    try clear e0
    obtain ⟨i,s1,rfl,HA,HK,HI⟩:=hrel
    cases gk with
    | zero=>exact absurd HA.out (by simp [Ai.t])
    | succ k1=>
     have h:=HA.out;clear HA;rw [Ai.t1] at h;obtain ⟨⟨A,c,g1,g2,M,g3,gs_,gm_⟩,ga_,gt_,gy_,gl_,gz_⟩:=HI.out;have GM:=Aa.mk gm_;clear gm_;have cl:_=some _:=Ak g1 0;have fl:=AD g1 0;have ca:_=some _:=Ak ga_ 0;have ct:_=some _:=Ak gt_ 0;have cy:_=some _:=Ak gy_ 0;have GR:=Aa.mk (Kd.R_reads' g3).2.2;have GC:=Aa.mk g2;have GI:=Aa.mk (And.intro g1 (And.intro g3 (And.intro ga_ (And.intro gt_ (And.intro gy_ (And.intro gs_ (And.intro gl_ gz_)))))));have E1:=Aa.mk (Kd.R_ne g3 g1 (by decide));have E2:=Aa.mk (Kd.R_ne g3 ga_ (by decide));have E3:=Aa.mk (Kd.R_ne g3 gt_ (by decide));have E4:=Aa.mk (Kd.R_ne g3 gy_ (by decide));clear g1 g2 g3 ga_ gt_ gy_ gs_ gl_ gz_;by_cases c1:i<=m
     ·rw [if_pos c1] at h;have c1b:decide (i<=m)=true:=Wo c1;clear c1;by_cases c2:0<=i
      ·rw [if_pos c2] at h;have c2b:decide (0<=i)=true:=Wo c2;clear c2;obtain ⟨c',hc',h⟩:=By.mp h;have HC:=Aa.mk hc';clear hc';by_cases c3:c'=3
       ·rw [if_pos c3] at h;have c3b:(c'==3)=true:=beq_iff_eq.mpr c3;clear c3;have H:=Aa.mk h;clear h
        go_wp2_with (first
         | (go_at_call 189;refine (BB.calls k1 _ _ l i c' _ GR.out GC.out HC.out).mono ?_;rintro e w1 ⟨rfl,⟨⟨nd,rfl⟩⟩⟩;have HI2:=Aa.mk (HI.out.below HM.out HG.out.2.2.2.2.2.1 (Ac (WG _ _) nd))))
        go_roundg k1
        case measure=>omega
        case rel=>exact ⟨wrap64 (i+1),s1,(by first | rfl | (simp;done) | (simp [*];done)),H,⟨by have:=HK.out;omega⟩,HI2⟩
       ·rw [if_neg c3] at h;have c3b:(c'==3)=false:=beq_eq_false_iff_ne.mpr c3;clear c3
        cases k1 with
        | zero=>exact absurd h (by simp [Ai.t])
        | succ k2=>
        rw [Ai.t2] at h;by_cases c4:l.length<1000
        ·rw [if_pos c4] at h;have LM:=Aa.mk c4;clear c4
         obtain ⟨l1,hl1⟩:∃ y:List Int,y=l++[i]:=⟨_,rfl⟩
         have Nl:=Aa.mk hl1;clear hl1;by_cases c5:i=m
         ·rw [if_pos c5] at h;have c5b:(i==m)=true:=beq_iff_eq.mpr c5;clear c5;obtain ⟨s2,h2,h⟩:=By.mp h;rw [<- Nl.out] at h2;have H2:=Aa.mk h2;have H:=Aa.mk h;clear h h2
          go_wp2_with (first | (go_at_call 189;refine (BB.calls (k2+1) _ _ l i c' _ GR.out GC.out HC.out).mono ?_;rintro e wc ⟨rfl,⟨⟨nd,rfl⟩⟩⟩) | ((with_reducible refine DD (b:=.append) (xs:=#[.tmp 32,.tmp 34]) rfl ?_);at_builtin;refine Kd.R_append (Kd.int .i64) (w0:=wr) B1 rfl (.tmp 32) (.tmp 34) 32 3 (.int .i64 0) 8 rfl Tryz.underlying32 info3 rfl (by decide) (by omega) (.slice A l.length c) l i [.int .i64 i] (λk=>¬ M k) (λ_=>False) rfl rfl ?aP (λ_ hk=>hk.elim) ?aF ?aO ?aB ?aS ?aL ?_;(case aP=>exact rfl);(case aB=>exact (by repeat (first | exact WG _ _ | apply Ac | apply Ae)));(case aF=>exact (λk hk hm=>absurd (GM.out k hm).1 (Nat.not_lt.mpr hk)));(case aO=>exact (by (with_reducible repeat (first | apply Kd.R_alloc | apply Kd.R_drewN | apply Kd.R_drew));exact GI.out.2.1));(case aS=>exact GI.out.2.2.2.2.2.2.2);(case aL=>have:=LM.out;omega);intro v1 w1 ho hb hg hat;rw [<- Nl.out] at ho;obtain ⟨A1,c1,rfl⟩:=Kd.R_slice ho;have q1:=CU (w:=(wr.drewN nd)) GI.out.1 hg E1.out;have dl:_=some _:=Ak q1 0;have df:=AD q1 0;have HI3:=Aa.mk (Ai.I.put q1 (CU (w:=(wr.drewN nd)) GI.out.2.2.1 hg E2.out) HG.out.2.2.2.2.1 (CU (w:=(wr.drewN nd)) GI.out.2.2.2.1 hg E3.out) (CU (w:=(wr.drewN nd)) GI.out.2.2.2.2.1 hg E4.out) HM.out (HM.out _ M _ _ GI.out.2.2.2.2.2.1 hb (λk hk=>hg.block k (GM.out k hk).1 (λhe=>GI.out.2.1.1 k he.symm hk))) (λk hk=>⟨WK (GM.out k hk).1 hb.size,(GM.out k hk).2⟩) (GI.out.2.2.2.2.2.2.1.trans (Below.mono hb HG.out.2.2.2.2.2.1)) (WA GI.out.2.2.2.2.2.2.2 hb.size) HG.out.1 HG.out.2.2.2.2.2.1 (Kd.R_reads' ho).2.1 ho);have dy:_=some _:=Ak HI3.out.try_ 0;clear q1 ho hb hg hat))
          refine (IH.out k2 (by have:=HK.out;omega) l1 (wrap64 (m+1)) s1 s2 _ H2.out HI3.out).mono ?_;rintro e w3 ⟨rfl,hI4⟩;have HI4:=Aa.mk hI4;clear hI4 dl df dy HI3;obtain ⟨⟨A3,c3,r1,r2,M3,r3,rs,rm⟩,ra,rt,ry,rl,rz⟩:=HI4.out;have el:_=some _:=Ak r1 0;have ef:=AD r1 0;have hn:l1.length=l.length+1:=by rw [Nl.out];simp
          have hw:IntKind.i64.wrap ((l1.length:Int)-1)=(l.length:Int):=by rw [C9];have:=LM.out;unfold wrap64;omega
          obtain ⟨i0,hi0,_,_,_⟩:=info_parts info3
          have hcut:∀ W:World,(Instr.slice 32 (.slice A3 l1.length c3) none (some (.int .i64 (l.length:Int))) none).run Tryz.prog W=.ok (.slice A3 l.length c3) W:=λW=>by
           have:=LN (P:=Tryz.prog) 32 3 .i64 Tryz.underlying32 hi0 A3 l1.length c3 (l.length:Int) (by omega) (by omega) r2 W
           rwa [Rr] at this
          have HI5:=Aa.mk (Ai.I.put (l:=l) (A:=A3) (c:=c3) r1 ra HG.out.2.2.2.2.1 rt ry HM.out rs rm rl rz HG.out.1 HG.out.2.2.2.2.2.1 (by omega) (by
           have:=Kd.R_take (m:=l.length) r3 (by omega)
           rwa [Nl.out,List.take_left] at this))
          have hwn:=Aa.mk hn;clear r1 r2 r3 rm ra rt ry rs rl rz HI4 hi0 hn;go_wp2
          go_roundg k2
          case measure=>omega
          case rel=>exact ⟨wrap64 (i+1),s2,(by first | rfl | (simp;done) | (simp [*];done)),H,⟨by have:=HK.out;omega⟩,HI5⟩
         ·rw [if_neg c5] at h;have c5b:(i==m)=false:=beq_eq_false_iff_ne.mpr c5;clear c5;obtain ⟨s2,h2,h⟩:=By.mp h;rw [<- Nl.out] at h2;have H2:=Aa.mk h2;have H:=Aa.mk h;clear h h2
          go_wp2_with (first | (go_at_call 189;refine (BB.calls (k2+1) _ _ l i c' _ GR.out GC.out HC.out).mono ?_;rintro e wc ⟨rfl,⟨⟨nd,rfl⟩⟩⟩) | ((with_reducible refine DD (b:=.append) (xs:=#[.tmp 32,.tmp 34]) rfl ?_);at_builtin;refine Kd.R_append (Kd.int .i64) (w0:=wr) B1 rfl (.tmp 32) (.tmp 34) 32 3 (.int .i64 0) 8 rfl Tryz.underlying32 info3 rfl (by decide) (by omega) (.slice A l.length c) l i [.int .i64 i] (λk=>¬ M k) (λ_=>False) rfl rfl ?aP (λ_ hk=>hk.elim) ?aF ?aO ?aB ?aS ?aL ?_;(case aP=>exact rfl);(case aB=>exact (by repeat (first | exact WG _ _ | apply Ac | apply Ae)));(case aF=>exact (λk hk hm=>absurd (GM.out k hm).1 (Nat.not_lt.mpr hk)));(case aO=>exact (by (with_reducible repeat (first | apply Kd.R_alloc | apply Kd.R_drewN | apply Kd.R_drew));exact GI.out.2.1));(case aS=>exact GI.out.2.2.2.2.2.2.2);(case aL=>have:=LM.out;omega);intro v1 w1 ho hb hg hat;rw [<- Nl.out] at ho;obtain ⟨A1,c1,rfl⟩:=Kd.R_slice ho;have q1:=CU (w:=(wr.drewN nd)) GI.out.1 hg E1.out;have dl:_=some _:=Ak q1 0;have df:=AD q1 0;have HI3:=Aa.mk (Ai.I.put q1 (CU (w:=(wr.drewN nd)) GI.out.2.2.1 hg E2.out) HG.out.2.2.2.2.1 (CU (w:=(wr.drewN nd)) GI.out.2.2.2.1 hg E3.out) (CU (w:=(wr.drewN nd)) GI.out.2.2.2.2.1 hg E4.out) HM.out (HM.out _ M _ _ GI.out.2.2.2.2.2.1 hb (λk hk=>hg.block k (GM.out k hk).1 (λhe=>GI.out.2.1.1 k he.symm hk))) (λk hk=>⟨WK (GM.out k hk).1 hb.size,(GM.out k hk).2⟩) (GI.out.2.2.2.2.2.2.1.trans (Below.mono hb HG.out.2.2.2.2.2.1)) (WA GI.out.2.2.2.2.2.2.2 hb.size) HG.out.1 HG.out.2.2.2.2.2.1 (Kd.R_reads' ho).2.1 ho);have dy:_=some _:=Ak HI3.out.try_ 0;clear q1 ho hb hg hat))
          refine (IH.out k2 (by have:=HK.out;omega) l1 m s1 s2 _ H2.out HI3.out).mono ?_;rintro e w3 ⟨rfl,hI4⟩;have HI4:=Aa.mk hI4;clear hI4 dl df dy HI3;obtain ⟨⟨A3,c3,r1,r2,M3,r3,rs,rm⟩,ra,rt,ry,rl,rz⟩:=HI4.out;have el:_=some _:=Ak r1 0;have ef:=AD r1 0;have hn:l1.length=l.length+1:=by rw [Nl.out];simp
          have hw:IntKind.i64.wrap ((l1.length:Int)-1)=(l.length:Int):=by rw [C9];have:=LM.out;unfold wrap64;omega
          obtain ⟨i0,hi0,_,_,_⟩:=info_parts info3
          have hcut:∀ W:World,(Instr.slice 32 (.slice A3 l1.length c3) none (some (.int .i64 (l.length:Int))) none).run Tryz.prog W=.ok (.slice A3 l.length c3) W:=λW=>by
           have:=LN (P:=Tryz.prog) 32 3 .i64 Tryz.underlying32 hi0 A3 l1.length c3 (l.length:Int) (by omega) (by omega) r2 W
           rwa [Rr] at this
          have HI5:=Aa.mk (Ai.I.put (l:=l) (A:=A3) (c:=c3) r1 ra HG.out.2.2.2.2.1 rt ry HM.out rs rm rl rz HG.out.1 HG.out.2.2.2.2.2.1 (by omega) (by
           have:=Kd.R_take (m:=l.length) r3 (by omega)
           rwa [Nl.out,List.take_left] at this))
          have hwn:=Aa.mk hn;clear r1 r2 r3 rm ra rt ry rs rl rz HI4 hi0 hn;go_wp2
          go_roundg k2
          case measure=>omega
          case rel=>exact ⟨wrap64 (i+1),s2,(by first | rfl | (simp;done) | (simp [*];done)),H,⟨by have:=HK.out;omega⟩,HI5⟩
        ·rw [if_neg c4] at h;exact absurd h (by simp)
      ·rw [if_neg c2] at h;have c2b:decide (0<=i)=false:=Wp c2;clear c2
       cases k1 with
       | zero=>exact absurd h (by simp [Ai.t])
       | succ k2=>
       rw [Ai.t2] at h;by_cases c4:l.length<1000
       ·rw [if_pos c4] at h;have LM:=Aa.mk c4;clear c4
        obtain ⟨l1,hl1⟩:∃ y:List Int,y=l++[i]:=⟨_,rfl⟩
        have Nl:=Aa.mk hl1;clear hl1;by_cases c5:i=m
        ·rw [if_pos c5] at h;have c5b:(i==m)=true:=beq_iff_eq.mpr c5;clear c5;obtain ⟨s2,h2,h⟩:=By.mp h;rw [<- Nl.out] at h2;have H2:=Aa.mk h2;have H:=Aa.mk h;clear h h2
         go_wp2_with (first | ((with_reducible refine DD (b:=.append) (xs:=#[.tmp 32,.tmp 34]) rfl ?_);at_builtin;refine Kd.R_append (Kd.int .i64) (w0:=wr) B1 rfl (.tmp 32) (.tmp 34) 32 3 (.int .i64 0) 8 rfl Tryz.underlying32 info3 rfl (by decide) (by omega) (.slice A l.length c) l i [.int .i64 i] (λk=>¬ M k) (λ_=>False) rfl rfl ?aP (λ_ hk=>hk.elim) ?aF ?aO ?aB ?aS ?aL ?_;(case aP=>exact rfl);(case aB=>exact (by repeat (first | exact WG _ _ | apply Ac | apply Ae)));(case aF=>exact (λk hk hm=>absurd (GM.out k hm).1 (Nat.not_lt.mpr hk)));(case aO=>exact (by (with_reducible repeat (first | apply Kd.R_alloc | apply Kd.R_drewN | apply Kd.R_drew));exact GI.out.2.1));(case aS=>exact GI.out.2.2.2.2.2.2.2);(case aL=>have:=LM.out;omega);intro v1 w1 ho hb hg hat;rw [<- Nl.out] at ho;obtain ⟨A1,c1,rfl⟩:=Kd.R_slice ho;have q1:=CU (w:=wr) GI.out.1 hg E1.out;have dl:_=some _:=Ak q1 0;have df:=AD q1 0;have HI3:=Aa.mk (Ai.I.put q1 (CU (w:=wr) GI.out.2.2.1 hg E2.out) HG.out.2.2.2.2.1 (CU (w:=wr) GI.out.2.2.2.1 hg E3.out) (CU (w:=wr) GI.out.2.2.2.2.1 hg E4.out) HM.out (HM.out _ M _ _ GI.out.2.2.2.2.2.1 hb (λk hk=>hg.block k (GM.out k hk).1 (λhe=>GI.out.2.1.1 k he.symm hk))) (λk hk=>⟨WK (GM.out k hk).1 hb.size,(GM.out k hk).2⟩) (GI.out.2.2.2.2.2.2.1.trans (Below.mono hb HG.out.2.2.2.2.2.1)) (WA GI.out.2.2.2.2.2.2.2 hb.size) HG.out.1 HG.out.2.2.2.2.2.1 (Kd.R_reads' ho).2.1 ho);have dy:_=some _:=Ak HI3.out.try_ 0;clear q1 ho hb hg hat))
         refine (IH.out k2 (by have:=HK.out;omega) l1 (wrap64 (m+1)) s1 s2 _ H2.out HI3.out).mono ?_;rintro e w3 ⟨rfl,hI4⟩;have HI4:=Aa.mk hI4;clear hI4 dl df dy HI3;obtain ⟨⟨A3,c3,r1,r2,M3,r3,rs,rm⟩,ra,rt,ry,rl,rz⟩:=HI4.out;have el:_=some _:=Ak r1 0;have ef:=AD r1 0;have hn:l1.length=l.length+1:=by rw [Nl.out];simp
         have hw:IntKind.i64.wrap ((l1.length:Int)-1)=(l.length:Int):=by rw [C9];have:=LM.out;unfold wrap64;omega
         obtain ⟨i0,hi0,_,_,_⟩:=info_parts info3
         have hcut:∀ W:World,(Instr.slice 32 (.slice A3 l1.length c3) none (some (.int .i64 (l.length:Int))) none).run Tryz.prog W=.ok (.slice A3 l.length c3) W:=λW=>by
          have:=LN (P:=Tryz.prog) 32 3 .i64 Tryz.underlying32 hi0 A3 l1.length c3 (l.length:Int) (by omega) (by omega) r2 W
          rwa [Rr] at this
         have HI5:=Aa.mk (Ai.I.put (l:=l) (A:=A3) (c:=c3) r1 ra HG.out.2.2.2.2.1 rt ry HM.out rs rm rl rz HG.out.1 HG.out.2.2.2.2.2.1 (by omega) (by
          have:=Kd.R_take (m:=l.length) r3 (by omega)
          rwa [Nl.out,List.take_left] at this))
         have hwn:=Aa.mk hn;clear r1 r2 r3 rm ra rt ry rs rl rz HI4 hi0 hn;go_wp2
         go_roundg k2
         case measure=>omega
         case rel=>exact ⟨wrap64 (i+1),s2,(by first | rfl | (simp;done) | (simp [*];done)),H,⟨by have:=HK.out;omega⟩,HI5⟩
        ·rw [if_neg c5] at h;have c5b:(i==m)=false:=beq_eq_false_iff_ne.mpr c5;clear c5;obtain ⟨s2,h2,h⟩:=By.mp h;rw [<- Nl.out] at h2;have H2:=Aa.mk h2;have H:=Aa.mk h;clear h h2
         go_wp2_with (first | ((with_reducible refine DD (b:=.append) (xs:=#[.tmp 32,.tmp 34]) rfl ?_);at_builtin;refine Kd.R_append (Kd.int .i64) (w0:=wr) B1 rfl (.tmp 32) (.tmp 34) 32 3 (.int .i64 0) 8 rfl Tryz.underlying32 info3 rfl (by decide) (by omega) (.slice A l.length c) l i [.int .i64 i] (λk=>¬ M k) (λ_=>False) rfl rfl ?aP (λ_ hk=>hk.elim) ?aF ?aO ?aB ?aS ?aL ?_;(case aP=>exact rfl);(case aB=>exact (by repeat (first | exact WG _ _ | apply Ac | apply Ae)));(case aF=>exact (λk hk hm=>absurd (GM.out k hm).1 (Nat.not_lt.mpr hk)));(case aO=>exact (by (with_reducible repeat (first | apply Kd.R_alloc | apply Kd.R_drewN | apply Kd.R_drew));exact GI.out.2.1));(case aS=>exact GI.out.2.2.2.2.2.2.2);(case aL=>have:=LM.out;omega);intro v1 w1 ho hb hg hat;rw [<- Nl.out] at ho;obtain ⟨A1,c1,rfl⟩:=Kd.R_slice ho;have q1:=CU (w:=wr) GI.out.1 hg E1.out;have dl:_=some _:=Ak q1 0;have df:=AD q1 0;have HI3:=Aa.mk (Ai.I.put q1 (CU (w:=wr) GI.out.2.2.1 hg E2.out) HG.out.2.2.2.2.1 (CU (w:=wr) GI.out.2.2.2.1 hg E3.out) (CU (w:=wr) GI.out.2.2.2.2.1 hg E4.out) HM.out (HM.out _ M _ _ GI.out.2.2.2.2.2.1 hb (λk hk=>hg.block k (GM.out k hk).1 (λhe=>GI.out.2.1.1 k he.symm hk))) (λk hk=>⟨WK (GM.out k hk).1 hb.size,(GM.out k hk).2⟩) (GI.out.2.2.2.2.2.2.1.trans (Below.mono hb HG.out.2.2.2.2.2.1)) (WA GI.out.2.2.2.2.2.2.2 hb.size) HG.out.1 HG.out.2.2.2.2.2.1 (Kd.R_reads' ho).2.1 ho);have dy:_=some _:=Ak HI3.out.try_ 0;clear q1 ho hb hg hat))
         refine (IH.out k2 (by have:=HK.out;omega) l1 m s1 s2 _ H2.out HI3.out).mono ?_;rintro e w3 ⟨rfl,hI4⟩;have HI4:=Aa.mk hI4;clear hI4 dl df dy HI3;obtain ⟨⟨A3,c3,r1,r2,M3,r3,rs,rm⟩,ra,rt,ry,rl,rz⟩:=HI4.out;have el:_=some _:=Ak r1 0;have ef:=AD r1 0;have hn:l1.length=l.length+1:=by rw [Nl.out];simp
         have hw:IntKind.i64.wrap ((l1.length:Int)-1)=(l.length:Int):=by rw [C9];have:=LM.out;unfold wrap64;omega
         obtain ⟨i0,hi0,_,_,_⟩:=info_parts info3
         have hcut:∀ W:World,(Instr.slice 32 (.slice A3 l1.length c3) none (some (.int .i64 (l.length:Int))) none).run Tryz.prog W=.ok (.slice A3 l.length c3) W:=λW=>by
          have:=LN (P:=Tryz.prog) 32 3 .i64 Tryz.underlying32 hi0 A3 l1.length c3 (l.length:Int) (by omega) (by omega) r2 W
          rwa [Rr] at this
         have HI5:=Aa.mk (Ai.I.put (l:=l) (A:=A3) (c:=c3) r1 ra HG.out.2.2.2.2.1 rt ry HM.out rs rm rl rz HG.out.1 HG.out.2.2.2.2.2.1 (by omega) (by
          have:=Kd.R_take (m:=l.length) r3 (by omega)
          rwa [Nl.out,List.take_left] at this))
         have hwn:=Aa.mk hn;clear r1 r2 r3 rm ra rt ry rs rl rz HI4 hi0 hn;go_wp2
         go_roundg k2
         case measure=>omega
         case rel=>exact ⟨wrap64 (i+1),s2,(by first | rfl | (simp;done) | (simp [*];done)),H,⟨by have:=HK.out;omega⟩,HI5⟩
       ·rw [if_neg c4] at h;exact absurd h (by simp)
     ·rw [if_neg c1] at h;have c1b:decide (i<=m)=false:=Wp c1;clear c1;obtain rfl:=AS h;go_wp2;go_end0;exact ⟨rfl,HI.out⟩
theorem Ai.heap_new {W:World} {o:Obj} {g:Nat} (h:g=W.heap.size):(W.alloc o).heap[g]?=some o:=by
 subst h;exact heap_alloc_new W o
theorem Ai.callsM {S:Type} (step:S->List Int->Option S) (K:Nat) (fn:Func) (hK:Tryz.prog.funcs[K]?=some fn) (hKn:(fn.name== "runtime.NumGoroutine")=false) (hKb:fn.body.isSome=true) (caps:Array Value) (B0:Nat) (R:S->(Nat->Prop)->World->Prop)
  (k:Nat) (A0:Option Addr) (c0:Nat) (a:List Int) (s0 s1:S) (w:World)
  (hmove:∀ s M w1 w2,R s M w1->Below w.heap.size w1 w2->(∀ k,M k->w2.heap[k]?=w1.heap[k]?)->R s M w2)
  (htell:∀ s s' M xs A c w1,R s M w1->(∀ k,M k->k<w1.heap.size)->w.heap.size<=w1.heap.size->Kd.C (Kd.int .i64) w1 A xs.length xs->xs.length<=c->step s xs=some s'->Calls Tryz.prog K (#[.slice A xs.length c]++caps) w1 λe w2=>e=.returned (.tuple #[])/\(∃ M',R s' M' w2/\∀ k,M' k->(M k\/w1.heap.size<=k)/\k<w2.heap.size)/\Below B0 w1 w2/\∀ k,w.heap.size<=k->k<w1.heap.size->w2.heap[k]?=w1.heap[k]?)
  (hB0:B0<=w.heap.size) (hr0:∀ w',Below B0 w w'->Kd.C (Kd.int .i64) w' A0 a.length a/\TabW w') (hc0:a.length<=c0) (hs:R s0 (λ_=>False) w) (h:Ai.f step k a s0=some s1) :
  Calls Tryz.prog 121 #[.slice A0 a.length c0,.func (.func K) #[] caps] w λe w'=>e=.returned (.tuple #[])/\(∃ M,R s1 M w')/\Below B0 w w':=by
 unfold Ai.f at h;by_cases hl:a.length<=1000
 ·rw [if_pos hl] at h;have HT:=Aa.mk (Ai.tries step K fn hK hKn hKb caps a A0 c0 B0 w.heap.size (w.heap.size+1+1+1) w.heap.size (w.heap.size+1) (w.heap.size+1+1+1+1) R w hmove htell (by omega) (by omega) (by omega) (by omega) (by omega) hB0 hr0 hc0 k [] 0 s0 s1);have H:=Aa.mk h;have HM:=Aa.mk hmove;have HS:=Aa.mk hs;have HB0:=Aa.mk hB0;clear h hmove htell hB0 hr0 hc0 hs hK hKn hKb;obtain ⟨i0,hi0,hz0,hsz0,hby0⟩:=info_parts info3
  have hmk:∀ W:World,(Instr.makeSlice 32 (.int .i64 0) (.int .i64 (a.length:Int))).run Tryz.prog W=.ok (.slice (some ⟨W.heap.size,0,none⟩) 0 a.length) (W.alloc (.cells (madeCells #[.int .i64 0] a.length) 3)):=λW=>by
   have:=run_make (P:=Tryz.prog) W 32 3 i0 (.int .i64 0) Tryz.underlying32 hi0 hz0 .i64 .i64 0 (a.length:Int) (by omega) (by omega) (by rw [hby0];omega) (by omega)
   rwa [hsz0,Nat.mul_one,Rr] at this
  clear hi0 hz0 hsz0 hby0;have hmf:∀ (fn:Fn) (first cap:Array Value) (w:World),(Instr.makeFunc fn first cap).run Tryz.prog w=.ok (.func fn first cap) w:=λ_ _ _ _=>rfl;have hsf:∀ (w:World) (a:Addr) (fn:Fn) (first cap:Array Value),(Go.store a (.func fn first cap)).run Tryz.prog w=stored Tryz.prog w a (.func fn first cap) .plain:=λw a fn first cap=>run_store _ w a _ _ rfl
  have HL:=Aa.mk hl;clear hl;have by_:(((((w.alloc (Obj.cells #[.slice A0 a.length c0] 32)).alloc (Obj.cells #[.func (.func K) #[] caps] 108)).alloc (Obj.cells (madeCells #[.int .i64 0] a.length) 3)).alloc (Obj.cells #[.slice (some ⟨w.heap.size+1+1,0,none⟩) 0 a.length] 32)).alloc (Obj.cells #[.nilFunc] 124)).heap[w.heap.size+1+1+1+1]?=some (Obj.cells #[.nilFunc] 124):=Ai.heap_new (by simp);have cy:_=some _:=Ak by_ 0;have fy:=AD by_ 0;have BY:=Aa.mk by_;clear by_;go_enter Tryz.func121,Tryz.ntmps121
  go_wp2_with fail
  have hb:Below w.heap.size w _:=Ad (Ad (Ad (Ad (Ad (WG w.heap.size w) (Obj.cells #[.slice A0 a.length c0] 32)) (Obj.cells #[.func (.func K) #[] caps] 108)) (Obj.cells (madeCells #[.int .i64 0] a.length) 3)) (Obj.cells #[.slice (some ⟨w.heap.size+1+1,0,none⟩) 0 a.length] 32)) (Obj.cells #[.func (.func 187) #[] #[.pointer (some ⟨w.heap.size+1+1+1,0,none⟩),.pointer (some ⟨w.heap.size,0,none⟩),.pointer (some ⟨w.heap.size+1,0,none⟩),.pointer (some ⟨w.heap.size+1+1+1+1,0,none⟩)]] 124)
  have hrow:Kd.R (Kd.int .i64) 3 (((w.alloc (Obj.cells #[.slice A0 a.length c0] 32)).alloc (Obj.cells #[.func (.func K) #[] caps] 108)).alloc (Obj.cells (madeCells #[.int .i64 0] a.length) 3)) w.heap.size (λ_=>True) (.slice (some ⟨w.heap.size+1+1,0,none⟩) ([]:List Int).length a.length) []:=by
   have:=World.ownsRow_made (e:=3) (size:=1) (base:=w.heap.size) ((w.alloc (Obj.cells #[.slice A0 a.length c0] 32)).alloc (Obj.cells #[.func (.func K) #[] caps] 108)) (madeCells #[.int .i64 0] a.length) a.length (by simp;omega) (by have:=HL.out;unfold maxLen;omega) (by rw [size_madeCells];omega);exact Kd.R_of_own (by have h2:=this;simp at h2;exact h2) (λ_ _=>trivial)
  refine (HT.out _ H.out ⟨⟨_,_,?_,WC _,λ_=>False,Kd.R_mono (Kd.R_alloc (Kd.R_alloc hrow _) _) (λ_ _ h=>h),HM.out _ _ _ _ HS.out hb (λ_ h=>h.elim),λ_ h=>h.elim⟩,?_,?_,?_,Below.mono hb HB0.out,hb.size⟩).mono ?_
  ·repeat (first | (refine Ai.heap_new ?_;simp;done) | refine B3 ?_ _)
  ·repeat (first | (refine Ai.heap_new ?_;simp;done) | refine B3 ?_ _)
  ·repeat (first | (refine Ai.heap_new ?_;simp;done) | refine B3 ?_ _)
  ·repeat (first | (refine Ai.heap_new ?_;simp;done) | refine B3 ?_ _)
  rintro e w1 ⟨rfl,hI⟩;have HI:=Aa.mk hI;clear hI hb hrow;go_wp2;go_end0;exact ⟨rfl,HI.out.state,HI.out.low⟩
 ·rw [if_neg hl] at h;exact absurd h (by simp)
theorem Ai.calls {S:Type} (step:S->List Int->Option S) (K:Nat) (fn:Func) (hK:Tryz.prog.funcs[K]?=some fn) (hKn:(fn.name== "runtime.NumGoroutine")=false) (hKb:fn.body.isSome=true) (caps:Array Value) (B0:Nat) (R:S->World->Prop)
  (k:Nat) (A0:Option Addr) (c0:Nat) (a:List Int) (s0 s1:S) (w:World)
  (hmove:∀ s w1 w2,R s w1->Below w.heap.size w1 w2->R s w2)
  (htell:∀ s s' xs A c w1,R s w1->w.heap.size<=w1.heap.size->Kd.C (Kd.int .i64) w1 A xs.length xs->xs.length<=c->step s xs=some s'->Calls Tryz.prog K (#[.slice A xs.length c]++caps) w1 λe w2=>e=.returned (.tuple #[])/\R s' w2/\Below B0 w1 w2/\∀ k,w.heap.size<=k->k<w1.heap.size->w2.heap[k]?=w1.heap[k]?)
  (hB0:B0<=w.heap.size) (hr0:∀ w',Below B0 w w'->Kd.C (Kd.int .i64) w' A0 a.length a/\TabW w') (hc0:a.length<=c0) (hs:R s0 w) (h:Ai.f step k a s0=some s1) :
  Calls Tryz.prog 121 #[.slice A0 a.length c0,.func (.func K) #[] caps] w λe w'=>e=.returned (.tuple #[])/\R s1 w'/\Below B0 w w':=by
 refine (Ai.callsM step K fn hK hKn hKb caps B0 (λs M w=>R s w/\∀ k,¬ M k) k A0 c0 a s0 s1 w (λs M w1 w2 h1 h2 _=>⟨hmove s w1 w2 h1.1 h2,h1.2⟩) ?_ hB0 hr0 hc0 ⟨hs,λ_ h=>h⟩ h).mono ?_
 ·intro s s' M xs A c w1 h1 _ h2 h3 h4 h5;refine (htell s s' xs A c w1 h1.1 h2 h3 h4 h5).mono ?_;rintro e w2 ⟨h1,h2,h3,h4⟩;exact ⟨h1,⟨λ_=>False,⟨h2,λ_ h=>h⟩,λ_ h=>h.elim⟩,h3,h4⟩
 ·rintro e w2 ⟨h1,⟨M,h2,_⟩,h3⟩;exact ⟨h1,h2,h3⟩
theorem AY.heap_new {W:World} {o:Obj} {g:Nat} (h:g=W.heap.size):(W.alloc o).heap[g]?=some o:=by
 subst h;exact heap_alloc_new W o
def AY.R (A0:Option Addr) (n0 c0 g gb:Nat) (w0:World) (s:Int) (w1:World):Prop:=w1.heap[g]?=some (.cells #[.int .i64 s] 3 (0,0))/\Below w0.heap.size w0 w1
theorem AY.moves {A0:Option Addr} {n0 c0 g gb B1:Nat} {w0 w1 w2:World} {s:Int} (h:AY.R A0 n0 c0 g gb w0 s w1) (hb:Below B1 w1 w2) (h1:g<B1) (_:gb<B1) (h3:w0.heap.size<=B1):AY.R A0 n0 c0 g gb w0 s w2:=
 ⟨(hb.block _ h1).trans h.1,h.2.trans (Below.mono hb h3)⟩
theorem AY.tell (k:Nat) (l0:List Int) (A0:Option Addr) (c0 g gb:Nat) (w0:World) (B1:Nat) (s s':Int) (xs:List Int) (A:Option Addr) (c:Nat) (w1:World) (_hr0:∀ w',Below w0.heap.size w0 w'->Kd.C (Kd.int .i64) w' A0 l0.length l0) (_hc0:l0.length<=c0) (hg0:w0.heap.size<=g) (_hgb:w0.heap.size<=gb) (hg:g<B1) (hR:AY.R A0 l0.length c0 g gb w0 s w1) (hz:B1<=w1.heap.size)
  (hx:Kd.C (Kd.int .i64) w1 A xs.length xs) (hc:xs.length<=c) (h:AY.step k s xs=some s') :
  Calls Tryz.prog 122 (#[.slice A xs.length c]++#[.pointer (some ⟨g,0,none⟩)]) w1 λe w2=>e=.returned (.tuple #[])/\AY.R A0 l0.length c0 g gb w0 s' w2/\Below w0.heap.size w1 w2/\∀ k,B1<=k->k<w1.heap.size->w2.heap[k]?=w1.heap[k]?:=by
 show Calls Tryz.prog 122 #[.slice A xs.length c,.pointer (some ⟨g,0,none⟩)] w1 _;obtain ⟨b,h1,h⟩:=By.mp h;obtain rfl:=AS h;obtain ⟨hR1,hR2⟩:=hR;have H1:=Aa.mk h1;have HX:=Aa.mk hx;have HC:=Aa.mk hc;have HR1:=Aa.mk hR1;have HR2:=Aa.mk hR2;have HG:=Aa.mk (And.intro hg0 (And.intro hg hz));have c0_:_=some _:=Ak hR1 0;have f0_:=AD hR1 0;clear h1 hx hc hR1 hR2 hg0 hg hz h _hr0 _hc0 _hgb;by_cases hb:b=true
 ·subst hb;rw [if_pos rfl];go_enter Tryz.func122,Tryz.ntmps122
  go_wp2_with (first | (go_at_call 123;refine (AF.calls k _ _ xs (-1) true _ HX.out HC.out H1.out).mono ?_;rintro e w2 ⟨rfl,⟨⟨n,rfl⟩⟩⟩))
  go_end0;exact ⟨rfl,⟨HR1.out,Ac HR2.out _⟩,Ac (WG _ _) _,λ_ _ _=>rfl⟩
 ·replace hb:=WJ.mpr hb;subst hb;rw [if_neg (by decide)];go_enter Tryz.func122,Tryz.ntmps122
  go_wp2_with (first | (go_at_call 123;refine (AF.calls k _ _ xs (-1) false _ HX.out HC.out H1.out).mono ?_;rintro e w2 ⟨rfl,⟨⟨n,rfl⟩⟩⟩))
  go_end0;exact ⟨rfl,⟨Ce HR1.out 0 _ rfl,(Ac HR2.out _).setCell HG.out.1 _⟩,(Ac (WG _ _) _).setCell HG.out.1 _,λk h1 h2=>Below.heap_setCell _ _ _ k (by have:=HG.out.2.1;simp;omega)⟩
theorem AY.calls (k:Nat) (A0:Option Addr) (c0:Nat) (l0:List Int) (r1:Int) (r2:Bool) (w:World) (hr0:Kd.C (Kd.int .i64) w A0 l0.length l0) (hc0:l0.length<=c0) (h:AY.f k l0=some (r1,r2)) (htab_:TabW w) :
  Calls Tryz.prog 74 #[.slice A0 l0.length c0] w λe w'=>e=.returned (.tuple #[.int .i64 r1,.bool r2])/\Below w.heap.size w w':=by
 have HTAB_:=Aa.mk htab_;clear htab_;have HR0:=Aa.mk hr0;have HC0:=Aa.mk hc0;clear hr0 hc0;have HB:=Aa.mk (WG w.heap.size w);obtain ⟨t,h1,h⟩:=By.mp h;have A1:=Aa.mk h1;clear h1;by_cases c3:t=true
 ·subst c3;rw [if_pos rfl] at h;obtain ⟨r,h3,h⟩:=By.mp h;simp only [AT,If] at h;obtain ⟨rfl,rfl⟩:=h;have A3:=Aa.mk h3;clear h3;have hmf:∀ (fn:Fn) (first cap:Array Value) (w:World),(Instr.makeFunc fn first cap).run Tryz.prog w=.ok (.func fn first cap) w:=λ_ _ _ _=>rfl;have ca:∀ m,((w.drewN m).alloc (Obj.cells #[.int .i64 0] 3)).cell? ⟨w.heap.size,0,none⟩=some (.int .i64 0):=λm=>Ak (AY.heap_new (by simp)) 0;have fa:∀ m,((w.drewN m).alloc (Obj.cells #[.int .i64 0] 3)).frozen? ⟨w.heap.size,0,none⟩=false:=λm=>AD (AY.heap_new (by simp)) 0;have hb0:∀ m,Below w.heap.size w (((w.drewN m).alloc (Obj.cells #[.int .i64 0] 3)).setCell ⟨w.heap.size,0,none⟩ (.int .i64 0)):=λm=>(Ad (Ac (WG w.heap.size w) m) _).setCell (Wn _) _;have HBM:=Aa.mk hb0;clear hb0;go_enter Tryz.func74,Tryz.ntmps74
  go_wp2_with (first
   | (go_at_call 56;refine (AA.calls k _ _ l0 true _ (by repeat (first | exact HR0.out | (with_reducible refine Kd.C_alloc ?_ _) | (with_reducible refine Kd.C_drewN ?_ _) | (with_reducible refine Kd.C_drew ?_))) HC0.out A1.out).mono ?_;rintro e w1 ⟨rfl,⟨⟨n,rfl⟩⟩⟩)
   | (go_at_call 121;refine (Ai.calls (AY.step k) 122 _ Tryz.func122 (by kernel_rfl) rfl #[.pointer (some ⟨w.heap.size,0,none⟩)] w.heap.size (AY.R A0 l0.length c0 (w.heap.size) w.heap.size w) k A0 c0 l0 0 r _ ?hm ?ht ?hB ?hr HC0.out ?hs A3.out).mono ?_;(case hm=>exact λs w1 w2 h1 h2=>AY.moves h1 h2 (by simp;try omega) (by simp;try omega) (by simp;try omega));(case ht=>exact λs s' xs A c w1 h1 hz hx hc h2=>AY.tell k l0 A0 c0 _ _ w _ s s' xs A c w1 (λw' hb=>Kd.C_below HR0.out hb) HC0.out (by omega) (by omega) (by simp;try omega) h1 hz hx hc h2);(case hB=>simp;try omega);(case hr=>exact λw' hb=>⟨Kd.C_below HR0.out (Below.trans (HBM.out _) hb),HTAB_.out.below (Below.trans (HBM.out _) hb)⟩);(case hs=>exact ⟨Ce (AY.heap_new (by simp)) 0 _ rfl,HBM.out _⟩);rintro e w2 ⟨rfl,hs,hb⟩;have c2:=Ak hs.1 0;have HB2:=Aa.mk (Below.trans (HBM.out _) hb);clear hb hs))
  go_ret2;exact ⟨rfl,HB2.out⟩
 ·replace c3:=WJ.mpr c3;subst c3;rw [if_neg (by decide)] at h;simp only [AT,If] at h;obtain ⟨rfl,rfl⟩:=h;go_enter Tryz.func74,Tryz.ntmps74
  go_wp2_with (first
   | (go_at_call 56;refine (AA.calls k _ _ l0 false _ (by repeat (first | exact HR0.out | (with_reducible refine Kd.C_alloc ?_ _) | (with_reducible refine Kd.C_drewN ?_ _) | (with_reducible refine Kd.C_drew ?_))) HC0.out A1.out).mono ?_;rintro e w1 ⟨rfl,⟨⟨n,rfl⟩⟩⟩))
  go_ret2;exact ⟨rfl,by repeat (first | (with_reducible first | exact HB.out | apply Ad | apply Ac | apply Ae) | exact HB.out)⟩
theorem AN.heap_new {W:World} {o:Obj} {g:Nat} (h:g=W.heap.size):(W.alloc o).heap[g]?=some o:=by
 subst h;exact heap_alloc_new W o
def AN.R (A0:Option Addr) (n0 c0 g gb:Nat) (w0:World) (s:Int) (w1:World):Prop:=w1.heap[g]?=some (.cells #[.int .i64 s] 3 (0,0))/\Below w0.heap.size w0 w1
theorem AN.moves {A0:Option Addr} {n0 c0 g gb B1:Nat} {w0 w1 w2:World} {s:Int} (h:AN.R A0 n0 c0 g gb w0 s w1) (hb:Below B1 w1 w2) (h1:g<B1) (_:gb<B1) (h3:w0.heap.size<=B1):AN.R A0 n0 c0 g gb w0 s w2:=
 ⟨(hb.block _ h1).trans h.1,h.2.trans (Below.mono hb h3)⟩
theorem AN.tell (k:Nat) (l0:List Int) (A0:Option Addr) (c0 g gb:Nat) (w0:World) (B1:Nat) (s s':Int) (xs:List Int) (A:Option Addr) (c:Nat) (w1:World) (_hr0:∀ w',Below w0.heap.size w0 w'->Kd.C (Kd.int .i64) w' A0 l0.length l0) (_hc0:l0.length<=c0) (hg0:w0.heap.size<=g) (_hgb:w0.heap.size<=gb) (hg:g<B1) (hR:AN.R A0 l0.length c0 g gb w0 s w1) (hz:B1<=w1.heap.size)
  (hx:Kd.C (Kd.int .i64) w1 A xs.length xs) (hc:xs.length<=c) (h:AN.step k s xs=some s') :
  Calls Tryz.prog 124 (#[.slice A xs.length c]++#[.pointer (some ⟨g,0,none⟩)]) w1 λe w2=>e=.returned (.tuple #[])/\AN.R A0 l0.length c0 g gb w0 s' w2/\Below w0.heap.size w1 w2/\∀ k,B1<=k->k<w1.heap.size->w2.heap[k]?=w1.heap[k]?:=by
 show Calls Tryz.prog 124 #[.slice A xs.length c,.pointer (some ⟨g,0,none⟩)] w1 _;obtain ⟨m,h1,h⟩:=By.mp h;have h:=AS h;obtain ⟨hR1,hR2⟩:=hR
 obtain ⟨y,hy⟩:∃ y,wrap64 (m+1)=y:=⟨_,rfl⟩
 rw [hy] at h;have hyw:IntKind.i64.wrap (m+1)=y:=(C9 _).trans hy;have hm_:(if s<y then y else s)=s':=h;have H1:=Aa.mk h1;have HX:=Aa.mk hx;have HC:=Aa.mk hc;have HR1:=Aa.mk hR1;have HR2:=Aa.mk hR2;have HG:=Aa.mk (And.intro hg0 (And.intro hg hz));have c0_:_=some _:=Ak hR1 0;have f0_:=AD hR1 0;clear h1 hx hc hR1 hR2 hg0 hg hz h _hr0 _hc0 _hgb;go_enter Tryz.func124,Tryz.ntmps124
 go_region_with (first | (go_at_call 119;refine (Av.calls k _ _ xs m _ (by repeat (first | exact HX.out | (with_reducible refine Kd.C_drewN ?_ _) | (with_reducible refine Kd.C_drew ?_))) HC.out H1.out).mono ?_;rintro e w2 ⟨rfl,⟨⟨n,rfl⟩⟩⟩))
 all_goals (try go_wp2)
 all_goals go_end0
 all_goals exact ⟨rfl,⟨Ce (BH HR1.out _) 0 _ (by simp [hm_]),(Ac HR2.out _).setCell HG.out.1 _⟩,(Ac (WG _ _) _).setCell HG.out.1 _,λk h1 h2=>Below.heap_setCell _ _ _ k (by have:=HG.out.2.1;simp;omega)⟩
theorem AN.calls (k:Nat) (A0:Option Addr) (c0:Nat) (l0:List Int) (r1:Int) (r2:Bool) (w:World) (hr0:Kd.C (Kd.int .i64) w A0 l0.length l0) (hc0:l0.length<=c0) (h:AN.f k l0=some (r1,r2)) (htab_:TabW w) :
  Calls Tryz.prog 75 #[.slice A0 l0.length c0] w λe w'=>e=.returned (.tuple #[.int .i64 r1,.bool r2])/\Below w.heap.size w w':=by
 have HTAB_:=Aa.mk htab_;clear htab_;have HR0:=Aa.mk hr0;have HC0:=Aa.mk hc0;clear hr0 hc0;have HB:=Aa.mk (WG w.heap.size w);obtain ⟨t,h1,h⟩:=By.mp h;have A1:=Aa.mk h1;clear h1;by_cases c3:t=true
 ·subst c3;rw [if_pos rfl] at h;obtain ⟨r,h3,h⟩:=By.mp h;simp only [AT,If] at h;obtain ⟨rfl,rfl⟩:=h;have A3:=Aa.mk h3;clear h3;have hmf:∀ (fn:Fn) (first cap:Array Value) (w:World),(Instr.makeFunc fn first cap).run Tryz.prog w=.ok (.func fn first cap) w:=λ_ _ _ _=>rfl;have ca:∀ m,((w.drewN m).alloc (Obj.cells #[.int .i64 0] 3)).cell? ⟨w.heap.size,0,none⟩=some (.int .i64 0):=λm=>Ak (AN.heap_new (by simp)) 0;have fa:∀ m,((w.drewN m).alloc (Obj.cells #[.int .i64 0] 3)).frozen? ⟨w.heap.size,0,none⟩=false:=λm=>AD (AN.heap_new (by simp)) 0;have hb0:∀ m,Below w.heap.size w (((w.drewN m).alloc (Obj.cells #[.int .i64 0] 3)).setCell ⟨w.heap.size,0,none⟩ (.int .i64 0)):=λm=>(Ad (Ac (WG w.heap.size w) m) _).setCell (Wn _) _;have HBM:=Aa.mk hb0;clear hb0;go_enter Tryz.func75,Tryz.ntmps75
  go_wp2_with (first
   | (go_at_call 56;refine (AA.calls k _ _ l0 true _ (by repeat (first | exact HR0.out | (with_reducible refine Kd.C_alloc ?_ _) | (with_reducible refine Kd.C_drewN ?_ _) | (with_reducible refine Kd.C_drew ?_))) HC0.out A1.out).mono ?_;rintro e w1 ⟨rfl,⟨⟨n,rfl⟩⟩⟩)
   | (go_at_call 121;refine (Ai.calls (AN.step k) 124 _ Tryz.func124 (by kernel_rfl) rfl #[.pointer (some ⟨w.heap.size,0,none⟩)] w.heap.size (AN.R A0 l0.length c0 (w.heap.size) w.heap.size w) k A0 c0 l0 0 r _ ?hm ?ht ?hB ?hr HC0.out ?hs A3.out).mono ?_;(case hm=>exact λs w1 w2 h1 h2=>AN.moves h1 h2 (by simp;try omega) (by simp;try omega) (by simp;try omega));(case ht=>exact λs s' xs A c w1 h1 hz hx hc h2=>AN.tell k l0 A0 c0 _ _ w _ s s' xs A c w1 (λw' hb=>Kd.C_below HR0.out hb) HC0.out (by omega) (by omega) (by simp;try omega) h1 hz hx hc h2);(case hB=>simp;try omega);(case hr=>exact λw' hb=>⟨Kd.C_below HR0.out (Below.trans (HBM.out _) hb),HTAB_.out.below (Below.trans (HBM.out _) hb)⟩);(case hs=>exact ⟨Ce (AN.heap_new (by simp)) 0 _ rfl,HBM.out _⟩);rintro e w2 ⟨rfl,hs,hb⟩;have c2:=Ak hs.1 0;have HB2:=Aa.mk (Below.trans (HBM.out _) hb);clear hb hs))
  go_ret2;exact ⟨rfl,HB2.out⟩
 ·replace c3:=WJ.mpr c3;subst c3;rw [if_neg (by decide)] at h;simp only [AT,If] at h;obtain ⟨rfl,rfl⟩:=h;go_enter Tryz.func75,Tryz.ntmps75
  go_wp2_with (first
   | (go_at_call 56;refine (AA.calls k _ _ l0 false _ (by repeat (first | exact HR0.out | (with_reducible refine Kd.C_alloc ?_ _) | (with_reducible refine Kd.C_drewN ?_ _) | (with_reducible refine Kd.C_drew ?_))) HC0.out A1.out).mono ?_;rintro e w1 ⟨rfl,⟨⟨n,rfl⟩⟩⟩))
  go_ret2;exact ⟨rfl,by repeat (first | (with_reducible first | exact HB.out | apply Ad | apply Ac | apply Ae) | exact HB.out)⟩
theorem AK.heap_new {W:World} {o:Obj} {g:Nat} (h:g=W.heap.size):(W.alloc o).heap[g]?=some o:=by
 subst h;exact heap_alloc_new W o
def AK.R (n:Int) (gf gm:Nat) (w0:World) (s:List Int) (M:Nat->Prop) (w1:World):Prop:=w1.heap[gm]?=some (.cells #[.int .i64 n] 3 (0,0))/\Below w0.heap.size w0 w1/\∃ A c,w1.heap[gf]?=some (.cells #[.slice A s.length c] 32 (0,0))/\Kd.R (Kd.int .i64) 3 w1 w0.heap.size M (.slice A s.length c) s/\(s=[]->A=none/\c=0)/\(s≠[]->∃ ad,A=some ad)
theorem AK.moves {n:Int} {gf gm B1:Nat} {w0 w1 w2:World} {s:List Int} {M:Nat->Prop} (h:AK.R n gf gm w0 s M w1) (hb:Below B1 w1 w2) (hm:∀ k,M k->w2.heap[k]?=w1.heap[k]?) (h1:gf<B1) (h2:gm<B1) (h3:w0.heap.size<=B1):AK.R n gf gm w0 s M w2:=by
 obtain ⟨q1,q2,A,c,q3,q4,q5,q6⟩:=h;exact ⟨(hb.block _ h2).trans q1,q2.trans (Below.mono hb h3),A,c,(hb.block _ h1).trans q3,Kd.R_move q4 hm,q5,q6⟩
theorem AK.tell (k:Nat) (n:Int) (gf gm:Nat) (w0:World) (B1:Nat) (s s':List Int) (M:Nat->Prop) (xs:List Int) (A:Option Addr) (c:Nat) (w1:World) (hg0:w0.heap.size<=gf) (hg:gf<B1) (hg2:gm<B1) (hR:AK.R n gf gm w0 s M w1) (hM:∀ k,M k->k<w1.heap.size) (hz:B1<=w1.heap.size)
  (hx:Kd.C (Kd.int .i64) w1 A xs.length xs) (hc:xs.length<=c) (h:AK.step k n s xs=some s') :
  Calls Tryz.prog 191 (#[.slice A xs.length c]++#[.pointer (some ⟨gf,0,none⟩),.pointer (some ⟨gm,0,none⟩)]) w1 λe w2=>e=.returned (.tuple #[])/\(∃ M',AK.R n gf gm w0 s' M' w2/\∀ k,M' k->(M k\/w1.heap.size<=k)/\k<w2.heap.size)/\Below w0.heap.size w1 w2/\∀ k,B1<=k->k<w1.heap.size->w2.heap[k]?=w1.heap[k]?:=by
 show Calls Tryz.prog 191 #[.slice A xs.length c,.pointer (some ⟨gf,0,none⟩),.pointer (some ⟨gm,0,none⟩)] w1 _;have HRR:=Aa.mk hR;obtain ⟨hR1,hR2,A2,c2,hR3,hR4,hR5,hR6⟩:=hR;have HX:=Aa.mk hx;have HC:=Aa.mk hc;have HM:=Aa.mk hM;have HR1:=Aa.mk hR1;have HR2:=Aa.mk hR2;have HR3:=Aa.mk hR3;have hne:gm≠gf:=Gl hR1 hR3 (by decide);have HG:=Aa.mk (And.intro hg0 (And.intro hg (And.intro hz (And.intro hne hg2))));have c0_:_=some _:=Ak hR3 0;have c1_:_=some _:=Ak hR1 0;have f0_:=AD hR3 0;unfold AK.step at h;by_cases hs:s=[]
 ·obtain ⟨e1,e2⟩:=hR5 hs;subst hs e1 e2;rw [if_pos rfl] at h;obtain ⟨m,h1,h⟩:=By.mp h;have H1:=Aa.mk h1
  obtain ⟨y,hy⟩:∃ y,wrap64 (m+1)=y:=⟨_,rfl⟩
  rw [hy] at h;have hyw:IntKind.i64.wrap (m+1)=y:=(C9 _).trans hy;have he:∀ W:World,(binOp .eql 32 (.slice none 0 0) (.slice none 0 0)).run Tryz.prog W=.ok (.bool true) W:=λ_=>rfl;clear hx hc hM hR1 hR2 hR3 hR4 hR5 hR6 hg0 hg hg2 hz hne h1;by_cases hn:y=n
  ·rw [if_pos hn] at h;have hnb:(y==n)=true:=beq_iff_eq.mpr hn;have H2:=Aa.mk h;clear h hn;go_enter Tryz.func191,Tryz.ntmps191;go_wp2
   go_quiet (first | (go_at_call 119;(with_reducible refine (Av.calls k _ _ xs m _ (by repeat (first | exact HX.out | (with_reducible refine Kd.C_drewN ?_ _) | (with_reducible refine Kd.C_drew ?_))) HC.out H1.out).mono ?_);rintro e w2 ⟨rfl,⟨⟨nd,rfl⟩⟩⟩;(first | exact ⟨rfl,_,World.drewN_drewN _ _ _⟩ | exact ⟨rfl,_,Eq.trans (World.drewN_drewN _ _ _) (WL (World.drewN _) (Nat.add_assoc _ _ _))⟩)))
   go_wp2_with (first | (go_at_call 41;refine (Aj.calls k _ _ xs s' _ (by repeat (first | exact HX.out | (with_reducible refine Kd.C_drewN ?_ _) | (with_reducible refine Kd.C_drew ?_))) HC.out H2.out).mono ?_;rintro e w3 ⟨v3,rfl,hr3,hb3⟩;obtain ⟨A3,c3,rfl⟩:=Kd.R_slice hr3;have G2:=Aa.mk hr3;have G3:=Aa.mk (show Below w1.heap.size w1 w3 from ⟨hb3.os,hb3.tape,hb3.output,hb3.size,hb3.block⟩);have q1:=Bl HR3.out G3.out;have c2_:_=some _:=Ak q1 0;have f2_:=AD q1 0;clear hr3 hb3 q1))
   go_end0
   obtain ⟨z1,z2⟩:s'=[]++xs/\0<xs.length:=by
    have h:=H2.out;unfold Aj.f at h;split at h
    ·split at h
     ·exact ⟨(AS h).symm,by assumption⟩
     ·exact absurd h (by simp)
    ·exact absurd h (by simp)
   have z3:0<s'.length:=by rw [z1];simpa using z2
   have hb:=Kd.R_bound G2.out;have hlt:=Dp HR3.out;have hr:=Kd.R_mono (ok':=λq=>w1.heap.size<=q/\q<w3.heap.size) (Kd.R_step (w1:=w3.setCell ⟨gf,0,none⟩ (.slice A3 s'.length c3)) hb (λq hq _=>Below.heap_setCell _ _ _ q (by have h:=hq.2.1;have h:w1.heap.size<=q:=h;intro he;have he:q=gf:=he;omega))) (λq hq=>⟨hq.2.1,hq.2.2.1⟩);refine ⟨rfl,⟨λq=>w1.heap.size<=q/\q<w3.heap.size,⟨E5 (Bl HR1.out G3.out) HG.out.2.2.2.1 _,(HR2.out.trans (Below.mono G3.out HR2.out.size)).setCell HG.out.1 _,A3,c3,Ce (Bl HR3.out G3.out) 0 _ rfl,Kd.R_lower hr HR2.out.size,λhe=>?_,λ_=>?_⟩,λq hq=>⟨.inr hq.1,by simpa [World.setCell] using hq.2⟩⟩,(Below.mono G3.out HR2.out.size).setCell HG.out.1 _,λq h1 h2=>(Below.heap_setCell _ _ _ q (by have:=HG.out.2.1;simp;omega)).trans (G3.out.block q h2)⟩
   ·rw [he] at z3;exact absurd z3 (by simp)
   ·obtain ⟨ad,e,_⟩:=Kd.at_int (Kd.R_reads' G2.out).2.2 0 (by omega) (by omega);exact ⟨ad,e⟩
  ·rw [if_neg hn] at h;have hnb:(y==n)=false:=beq_eq_false_iff_ne.mpr hn;obtain rfl:=AS h;clear h hn;go_enter Tryz.func191,Tryz.ntmps191;go_wp2
   go_quiet (first | (go_at_call 119;(with_reducible refine (Av.calls k _ _ xs m _ (by repeat (first | exact HX.out | (with_reducible refine Kd.C_drewN ?_ _) | (with_reducible refine Kd.C_drew ?_))) HC.out H1.out).mono ?_);rintro e w2 ⟨rfl,⟨⟨nd,rfl⟩⟩⟩;(first | exact ⟨rfl,_,World.drewN_drewN _ _ _⟩ | exact ⟨rfl,_,Eq.trans (World.drewN_drewN _ _ _) (WL (World.drewN _) (Nat.add_assoc _ _ _))⟩)))
   go_wp2;go_end0;exact ⟨rfl,⟨M,AK.moves (B1:=B1) HRR.out (Ac (WG _ _) _) (λ_ _=>rfl) HG.out.2.1 HG.out.2.2.2.2 (by have:=HG.out.1;have:=HG.out.2.1;omega),λq hq=>⟨.inl hq,HM.out q hq⟩⟩,Ac (WG _ _) _,λq _ _=>rfl⟩
 ·obtain ⟨ad,rfl⟩:=hR6 hs;rw [if_neg hs] at h;obtain rfl:=AS h;have he:∀ W:World,(binOp .eql 32 (.slice (some ad) s.length c2) (.slice none 0 0)).run Tryz.prog W=.ok (.bool false) W:=λ_=>rfl;clear hx hc hM hR1 hR2 hR3 hR4 hR5 hR6 hg0 hg hg2 hz hne h hs;go_enter Tryz.func191,Tryz.ntmps191;go_wp2
  go_quiet (fail)
  go_wp2;go_end0;exact ⟨rfl,⟨M,AK.moves (B1:=B1) HRR.out (Ac (WG _ _) _) (λ_ _=>rfl) HG.out.2.1 HG.out.2.2.2.2 (by have:=HG.out.1;have:=HG.out.2.1;omega),λq hq=>⟨.inl hq,HM.out q hq⟩⟩,Ac (WG _ _) _,λq _ _=>rfl⟩
theorem AK.calls (k:Nat) (A0:Option Addr) (c0:Nat) (l0:List Int) (r1:List Int) (r2:Bool) (w:World) (hr0:Kd.C (Kd.int .i64) w A0 l0.length l0) (hc0:l0.length<=c0) (h:AK.f k l0=some (r1,r2)) (htab_:TabW w) :
  Calls Tryz.prog 125 #[.slice A0 l0.length c0] w λe w'=>∃ v0_:Value,e=.returned (.tuple #[v0_,.bool r2])/\Kd.R (Kd.int .i64) 3 w' w.heap.size (λ_=>True) v0_ r1/\Below w.heap.size w w':=by
 have HTAB_:=Aa.mk htab_;clear htab_;have HR0:=Aa.mk hr0;have HC0:=Aa.mk hc0;clear hr0 hc0;obtain ⟨⟨n,ok⟩,h1,h⟩:=By.mp h;have A1:=Aa.mk h1;clear h1;simp only at h;by_cases c3:ok=true
 ·subst c3;rw [if_pos rfl] at h;obtain ⟨r,h3,h⟩:=By.mp h;simp only [AT,If] at h;obtain ⟨rfl,rfl⟩:=h;have A3:=Aa.mk h3;clear h3;have hmf:∀ (fn:Fn) (first cap:Array Value) (w:World),(Instr.makeFunc fn first cap).run Tryz.prog w=.ok (.func fn first cap) w:=λ_ _ _ _=>rfl;go_enter Tryz.func125,Tryz.ntmps125
  go_wp2_with (first
   | (go_at_call 75;refine (AN.calls k _ _ l0 n true _ (by repeat (first | exact HR0.out | (with_reducible refine Kd.C_alloc ?_ _) | (with_reducible refine Kd.C_drewN ?_ _) | (with_reducible refine Kd.C_drew ?_))) HC0.out A1.out (by first | exact HTAB_.out | exact HTAB_.out.below (by repeat (first | (with_reducible first | exact HB.out | apply Ad | apply Ac | apply Ae) | exact HB.out)))).mono ?_;rintro e w1 ⟨rfl,hb1⟩;have HB:=Aa.mk hb1;clear hb1)
   | (go_at_call 121;refine (Ai.callsM (AK.step k n) 191 _ Tryz.func191 (by kernel_rfl) rfl #[.pointer (some ⟨w1.heap.size+1,0,none⟩),.pointer (some ⟨w1.heap.size,0,none⟩)] w.heap.size (AK.R n (w1.heap.size+1) w1.heap.size w) k A0 c0 l0 [] r _ ?hm ?ht ?hB ?hr HC0.out ?hs A3.out).mono ?_;(case hm=>exact λs M wa wb h1 h2 h3=>AK.moves h1 h2 h3 (by simp) (by simp;try omega) (by have:=HB.out.size;simp;omega));(case ht=>exact λs s' M xs A c wa h1 hM hz hx hc h2=>AK.tell k n _ _ w _ s s' M xs A c wa (by have:=HB.out.size;omega) (by simp) (by simp;try omega) h1 hM hz hx hc h2);(case hB=>have:=HB.out.size;simp;omega);(case hr=>exact λw' hb=>⟨Kd.C_below HR0.out (Below.trans (Ad (Ad HB.out _) _) hb),HTAB_.out.below (Below.trans (Ad (Ad HB.out _) _) hb)⟩);(case hs=>exact ⟨B3 (AK.heap_new rfl) _,Ad (Ad HB.out _) _,none,0,AK.heap_new (by simp),Kd.R_nil _ _ _ _ _,λ_=>⟨rfl,rfl⟩,λh=>absurd rfl h⟩);rintro e w2 ⟨rfl,⟨M2,hs2⟩,hb2⟩;obtain ⟨q1,q2,A2,c2,q3,q4,_,_⟩:=hs2;have c2_:_=some _:=Ak q3 0;have G4:=Aa.mk q4;have HB2:=Aa.mk q2;clear q1 q2 q3 q4 hb2))
  go_ret2;exact ⟨_,rfl,Kd.R_mono G4.out (λ_ _=>trivial),HB2.out⟩
 ·replace c3:=WJ.mpr c3;subst c3;rw [if_neg (by decide)] at h;simp only [AT,If] at h;obtain ⟨rfl,rfl⟩:=h;go_enter Tryz.func125,Tryz.ntmps125
  go_wp2_with (first
   | (go_at_call 75;refine (AN.calls k _ _ l0 n false _ (by repeat (first | exact HR0.out | (with_reducible refine Kd.C_alloc ?_ _) | (with_reducible refine Kd.C_drewN ?_ _) | (with_reducible refine Kd.C_drew ?_))) HC0.out A1.out (by first | exact HTAB_.out | exact HTAB_.out.below (by repeat (first | (with_reducible first | exact HB.out | apply Ad | apply Ac | apply Ae) | exact HB.out)))).mono ?_;rintro e w1 ⟨rfl,hb1⟩;have HB:=Aa.mk hb1;clear hb1))
  go_ret2;exact ⟨_,rfl,Kd.R_nil _ _ _ _ _,Ad HB.out _⟩
theorem Cy.calls (k:Nat) (A0:Option Addr) (c0:Nat) (l0:List Int) (r1:List Int) (r2:Bool) (w:World) (hr0:Kd.C (Kd.int .i64) w A0 l0.length l0) (hc0:l0.length<=c0) (h:Cy.f k l0=some (r1,r2)) :
  Calls Tryz.prog 51 #[.slice A0 l0.length c0] w λe w'=>∃ v0_:Value,e=.returned (.tuple #[v0_,.bool r2])/\Kd.R (Kd.int .i64) 3 w' w.heap.size (λ_=>True) v0_ r1/\Below w.heap.size w w':=by
 have HR0:=Aa.mk hr0;have HC0:=Aa.mk hc0;clear hr0 hc0;obtain ⟨t,h1,h⟩:=By.mp h;have A1:=Aa.mk h1;clear h1;by_cases c3:t=true
 ·subst c3;rw [if_pos rfl] at h;obtain ⟨c,h2,h⟩:=By.mp h;simp only [AT,If] at h;obtain ⟨rfl,rfl⟩:=h
  have hpos:0<c.length/\c.length<1000:=by
   unfold Aj.f at h2;split at h2
   ·split at h2
    ·rw [<- AS h2];simp;omega
    ·exact absurd h2 (by simp)
   ·exact absurd h2 (by simp)
  have HP:=Aa.mk hpos;have A2:=Aa.mk h2;clear h2 hpos;go_enter Tryz.func51,Tryz.ntmps51
  go_wp2_with (first
   | (go_at_call 40;refine (Am.calls k _ _ l0 true _ (by repeat (first | exact HR0.out | (with_reducible refine Kd.C_drewN ?_ _) | (with_reducible refine Kd.C_drew ?_))) HC0.out A1.out).mono ?_;rintro e w1 ⟨rfl,⟨⟨n,rfl⟩⟩⟩)
   | (go_at_call 41;refine (Aj.calls k _ _ l0 c _ (by repeat (first | exact HR0.out | (with_reducible refine Kd.C_drewN ?_ _) | (with_reducible refine Kd.C_drew ?_))) HC0.out A2.out).mono ?_;rintro e w2 ⟨v2,rfl,hr2,hb2⟩;obtain ⟨g,cap,rfl,hg1,hg2,cells,hcell⟩:=Kd.R_form hr2 HP.out.1;have HR2:=Aa.mk hr2;have HB2:=Aa.mk (show Below w.heap.size w w2 from ⟨hb2.os,hb2.tape,hb2.output,hb2.size,hb2.block⟩);have HG:=Aa.mk (And.intro (show w.heap.size<=g from hg1) hg2);clear hr2 hb2 hg1 hg2 hcell))
  rcases (Kd.own_of_R HR2.out).2 with ⟨q0,_⟩ | ⟨g1,cap1,cur,q1,q2,q3,q4,q5,q6,q7⟩
  ·cases q0
  cases q1;have hsl:(c.mergeSort (λx y=>decide (x<=y))).length=c.length:=List.length_mergeSort _;have hH:Go.Sort.Holds (Value.int .i64) w2 g 0 c.toArray:=holds_of_blockI q3 (by rw [Nat.mul_one] at q7;exact q7);refine (Go.Proofs.YtlgojeodceiglaaGreatDoor.Shelf.Tryz.slices_Sort_int g 0 cap c w2 hH HG.out.2 (by have:=HP.out.2;omega)).mono ?_;rintro e w3 ⟨rfl,n,os,rfl⟩;have HO:=Aa.mk (show Kd.R (Kd.int .i64) 3 (Go.Sort.grow (Go.Sort.putRow (Value.int .i64) (Go.Sort.ahead w2 n) g 0 (c.mergeSort (λx y=>decide (x<=y))).toArray) os) w.heap.size (λ_=>True) (.slice (some ⟨g,0,none⟩) c.length cap) (c.mergeSort (λx y=>decide (x<=y))) from Kd.R_of_own (by rw [hsl];exact ownsRow_sortedI hsl HG.out.1 q3 q4 q5 q6) (λ_ _=>trivial));have HB3:=Aa.mk (show Below w.heap.size w (Go.Sort.grow (Go.Sort.putRow (Value.int .i64) (Go.Sort.ahead w2 n) g 0 (c.mergeSort (λx y=>decide (x<=y))).toArray) os) from Below.grown HB2.out (grownBy_sortedI _) HB2.out.size (λk hk=>by cases hk;exact HG.out.1))
  obtain ⟨w3,hw3⟩:∃ W:World,W=Go.Sort.grow (Go.Sort.putRow (Value.int .i64) (Go.Sort.ahead w2 n) g 0 (c.mergeSort (λx y=>decide (x<=y))).toArray) os:=⟨_,rfl⟩
  rw [<- hw3] at HO HB3 ⊢;clear hw3 q3 hH;go_wp2;go_ret2;exact ⟨_,rfl,HO.out,HB3.out⟩
 ·replace c3:=WJ.mpr c3;subst c3;rw [if_neg (by decide)] at h;simp only [AT,If] at h;obtain ⟨rfl,rfl⟩:=h;go_enter Tryz.func51,Tryz.ntmps51
  go_wp2_with (first
   | (go_at_call 40;refine (Am.calls k _ _ l0 false _ (by repeat (first | exact HR0.out | (with_reducible refine Kd.C_drewN ?_ _) | (with_reducible refine Kd.C_drew ?_))) HC0.out A1.out).mono ?_;rintro e w1 ⟨rfl,⟨⟨n,rfl⟩⟩⟩))
  go_ret2;exact ⟨_,rfl,Kd.R_nil _ _ _ _ _,Ac (WG _ _) _⟩
theorem Bi.heap_new {W:World} {o:Obj} {g:Nat} (h:g=W.heap.size):(W.alloc o).heap[g]?=some o:=by
 subst h;exact heap_alloc_new W o
theorem Bi.calls (k:Nat) (a0:ByteArray) (r1:Int) (r2:Int) (r3:Int) (r4:Bool) (w:World) (h:Bi.f k a0=some (r1,r2,r3,r4)) (htab_:TabW w) :
  Calls Tryz.prog 36 #[.string a0] w λe w'=>e=.returned (.tuple #[.int .i64 r1,.int .i64 r2,.int .i64 r3,.bool r4])/\Below w.heap.size w w':=by
 have HTAB_:=Aa.mk htab_;clear htab_;obtain ⟨⟨s,ok⟩,h1,h⟩:=By.mp h;have A1:=Aa.mk h1;clear h1;simp only at h;by_cases c1:ok=true
 ·subst c1;rw [if_pos rfl] at h;have H':=Aa.mk h;clear h;go_enter Tryz.func36,Tryz.ntmps36
  go_wp2_with (first
   | (go_at_call 30;refine (CD.calls k a0 s true _ A1.out (by first | exact HTAB_.out | exact HTAB_.out.below (by repeat (first | (with_reducible first | exact HB.out | apply Ad | apply Ac | apply Ae) | exact HB.out)))).mono ?_;rintro e w1 ⟨rfl,hb1⟩;have HB:=Aa.mk hb1;clear hb1))
  have HW:=Aa.mk (show w.heap.size<=w1.heap.size from HB.out.size)
  go_loopg [9] k (λkq v9 w'=>∃ (n0 n1 n2 n3 i:Int),v9=.int .i64 i/\Aa (Bi.l0 kq s n0 n1 n2 n3 i=some (r1,r2,r3,r4))/\Aa (kq<=k)/\Aa (w'.heap[w1.heap.size]?=some (.cells #[.int .i64 n0,.int .i64 n1,.int .i64 n2,.int .i64 n3] 102 (0,0)))/\Aa (Below w.heap.size w w'))
  case atStart=>exact ⟨0,0,0,0,1,rfl,H',⟨Wn _⟩,⟨Bi.heap_new rfl⟩,⟨Ad HB.out _⟩⟩
  case round=>
   clear H';obtain ⟨n0,n1,n2,n3,i,rfl,HA,HK,HM,HB2⟩:=hrel
   cases gk with
   | zero=>exact absurd HA.out (by simp [Bi.l0])
   | succ k1=>
    have H:=HA.out;clear HA;simp only [Bi.l0] at H;have c0_:_=some _:=Ak HM.out 0;have c1_:_=some _:=Ak HM.out 1;have c2_:_=some _:=Ak HM.out 2;have c3_:_=some _:=Ak HM.out 3;have f0_:=AD HM.out 0;have f1_:=AD HM.out 1;have f2_:=AD HM.out 2;have f3_:=AD HM.out 3;by_cases e1:i<(s.size:Int)
    ·rw [if_pos e1] at H;have e1b:decide (i<(s.size:Int))=true:=Wo e1;by_cases e2:0<=i
     ·rw [if_pos e2] at H
      obtain ⟨im,him⟩:∃ q:Int,wrap64 (i-1)=q:=⟨_,rfl⟩
      rw [him] at H;have himw:IntKind.i64.wrap (i-1)=im:=(C9 _).trans him;by_cases e3:0<=im
      ·rw [if_pos e3] at H;by_cases e4:im<(s.size:Int)
       ·rw [if_pos e4] at H;obtain ⟨x,hx,H⟩:=By.mp H;obtain ⟨y,hy,H⟩:=By.mp H;have HX:=Aa.mk hx;have HY:=Aa.mk hy;clear hx hy
        obtain ⟨d1,hd1⟩:∃ q:Int,wrap64 (x-y)=q:=⟨_,rfl⟩
        rw [hd1] at H
        obtain ⟨d2,hd2⟩:∃ q:Int,wrap64 (d1+4)=q:=⟨_,rfl⟩
        rw [hd2] at H;have hd1w:IntKind.i64.wrap (x-y)=d1:=(C9 _).trans hd1;have hd2w:IntKind.i64.wrap (d1+4)=d2:=(C9 _).trans hd2;have p1:=eq_true e2;have p2:=eq_true e1;have p3:=eq_true e3;have p4:=eq_true e4;have hb1:=Qo s i;have hb2:=Qo s im;clear e1 e2 e3 e4;by_cases hj:Int.tmod d2 4=0
        ·rw [if_pos hj] at H
         obtain ⟨q,hq⟩:∃ q:Int,wrap64 (n0+1)=q:=⟨_,rfl⟩
         rw [hq] at H;have hqw:IntKind.i64.wrap (n0+1)=q:=(C9 _).trans hq;have H':=Aa.mk H;clear H;have hjw:IntKind.i64.wrap (Int.tmod d2 4)=0:=by rw [hj];decide
         go_wp2
         go_region_with (first
          | (go_at_call 93;first
           | (refine (Br.calls (bt s i) x _ HX.out).mono ?_;rintro e w2 ⟨rfl,⟨⟨nd,rfl⟩⟩⟩)
           | (refine (Br.calls (bt s im) y _ HY.out).mono ?_;rintro e w2 ⟨rfl,⟨⟨nd,rfl⟩⟩⟩)))
         all_goals go_wp2
         all_goals go_roundg k1
         case measure=>omega
         case rel=>exact ⟨q,n1,n2,n3,wrap64 (i+1),(by first | rfl | (simp;done) | (simp [*];done)),H',⟨by have:=HK.out;omega⟩,⟨Ce (BH HM.out _) 0 _ rfl⟩,⟨(Ac HB2.out _).setCell HW.out _⟩⟩
         case measure=>omega
         case rel=>exact ⟨q,n1,n2,n3,wrap64 (i+1),(by first | rfl | (simp;done) | (simp [*];done)),H',⟨by have:=HK.out;omega⟩,⟨Ce (BH HM.out _) 0 _ rfl⟩,⟨(Ac HB2.out _).setCell HW.out _⟩⟩
         case measure=>omega
         case rel=>exact ⟨q,n1,n2,n3,wrap64 (i+1),(by first | rfl | (simp;done) | (simp [*];done)),H',⟨by have:=HK.out;omega⟩,⟨Ce (BH HM.out _) 0 _ rfl⟩,⟨(Ac HB2.out _).setCell HW.out _⟩⟩
        ·rw [if_neg hj] at H;clear hj;by_cases hj:Int.tmod d2 4=1
         ·rw [if_pos hj] at H
          obtain ⟨q,hq⟩:∃ q:Int,wrap64 (n1+1)=q:=⟨_,rfl⟩
          rw [hq] at H;have hqw:IntKind.i64.wrap (n1+1)=q:=(C9 _).trans hq;have H':=Aa.mk H;clear H;have hjw:IntKind.i64.wrap (Int.tmod d2 4)=1:=by rw [hj];decide
          go_wp2
          go_region_with (first
           | (go_at_call 93;first
            | (refine (Br.calls (bt s i) x _ HX.out).mono ?_;rintro e w2 ⟨rfl,⟨⟨nd,rfl⟩⟩⟩)
            | (refine (Br.calls (bt s im) y _ HY.out).mono ?_;rintro e w2 ⟨rfl,⟨⟨nd,rfl⟩⟩⟩)))
          all_goals go_wp2
          all_goals go_roundg k1
          case measure=>omega
          case rel=>exact ⟨n0,q,n2,n3,wrap64 (i+1),(by first | rfl | (simp;done) | (simp [*];done)),H',⟨by have:=HK.out;omega⟩,⟨Ce (BH HM.out _) 1 _ rfl⟩,⟨(Ac HB2.out _).setCell HW.out _⟩⟩
          case measure=>omega
          case rel=>exact ⟨n0,q,n2,n3,wrap64 (i+1),(by first | rfl | (simp;done) | (simp [*];done)),H',⟨by have:=HK.out;omega⟩,⟨Ce (BH HM.out _) 1 _ rfl⟩,⟨(Ac HB2.out _).setCell HW.out _⟩⟩
          case measure=>omega
          case rel=>exact ⟨n0,q,n2,n3,wrap64 (i+1),(by first | rfl | (simp;done) | (simp [*];done)),H',⟨by have:=HK.out;omega⟩,⟨Ce (BH HM.out _) 1 _ rfl⟩,⟨(Ac HB2.out _).setCell HW.out _⟩⟩
         ·rw [if_neg hj] at H;clear hj;by_cases hj:Int.tmod d2 4=2
          ·rw [if_pos hj] at H
           obtain ⟨q,hq⟩:∃ q:Int,wrap64 (n2+1)=q:=⟨_,rfl⟩
           rw [hq] at H;have hqw:IntKind.i64.wrap (n2+1)=q:=(C9 _).trans hq;have H':=Aa.mk H;clear H;have hjw:IntKind.i64.wrap (Int.tmod d2 4)=2:=by rw [hj];decide
           go_wp2
           go_region_with (first
            | (go_at_call 93;first
             | (refine (Br.calls (bt s i) x _ HX.out).mono ?_;rintro e w2 ⟨rfl,⟨⟨nd,rfl⟩⟩⟩)
             | (refine (Br.calls (bt s im) y _ HY.out).mono ?_;rintro e w2 ⟨rfl,⟨⟨nd,rfl⟩⟩⟩)))
           all_goals go_wp2
           all_goals go_roundg k1
           case measure=>omega
           case rel=>exact ⟨n0,n1,q,n3,wrap64 (i+1),(by first | rfl | (simp;done) | (simp [*];done)),H',⟨by have:=HK.out;omega⟩,⟨Ce (BH HM.out _) 2 _ rfl⟩,⟨(Ac HB2.out _).setCell HW.out _⟩⟩
           case measure=>omega
           case rel=>exact ⟨n0,n1,q,n3,wrap64 (i+1),(by first | rfl | (simp;done) | (simp [*];done)),H',⟨by have:=HK.out;omega⟩,⟨Ce (BH HM.out _) 2 _ rfl⟩,⟨(Ac HB2.out _).setCell HW.out _⟩⟩
           case measure=>omega
           case rel=>exact ⟨n0,n1,q,n3,wrap64 (i+1),(by first | rfl | (simp;done) | (simp [*];done)),H',⟨by have:=HK.out;omega⟩,⟨Ce (BH HM.out _) 2 _ rfl⟩,⟨(Ac HB2.out _).setCell HW.out _⟩⟩
          ·rw [if_neg hj] at H;clear hj;by_cases hj:Int.tmod d2 4=3
           ·rw [if_pos hj] at H
            obtain ⟨q,hq⟩:∃ q:Int,wrap64 (n3+1)=q:=⟨_,rfl⟩
            rw [hq] at H;have hqw:IntKind.i64.wrap (n3+1)=q:=(C9 _).trans hq;have H':=Aa.mk H;clear H;have hjw:IntKind.i64.wrap (Int.tmod d2 4)=3:=by rw [hj];decide
            go_wp2
            go_region_with (first
             | (go_at_call 93;first
              | (refine (Br.calls (bt s i) x _ HX.out).mono ?_;rintro e w2 ⟨rfl,⟨⟨nd,rfl⟩⟩⟩)
              | (refine (Br.calls (bt s im) y _ HY.out).mono ?_;rintro e w2 ⟨rfl,⟨⟨nd,rfl⟩⟩⟩)))
            all_goals go_wp2
            all_goals go_roundg k1
            case measure=>omega
            case rel=>exact ⟨n0,n1,n2,q,wrap64 (i+1),(by first | rfl | (simp;done) | (simp [*];done)),H',⟨by have:=HK.out;omega⟩,⟨Ce (BH HM.out _) 3 _ rfl⟩,⟨(Ac HB2.out _).setCell HW.out _⟩⟩
            case measure=>omega
            case rel=>exact ⟨n0,n1,n2,q,wrap64 (i+1),(by first | rfl | (simp;done) | (simp [*];done)),H',⟨by have:=HK.out;omega⟩,⟨Ce (BH HM.out _) 3 _ rfl⟩,⟨(Ac HB2.out _).setCell HW.out _⟩⟩
            case measure=>omega
            case rel=>exact ⟨n0,n1,n2,q,wrap64 (i+1),(by first | rfl | (simp;done) | (simp [*];done)),H',⟨by have:=HK.out;omega⟩,⟨Ce (BH HM.out _) 3 _ rfl⟩,⟨(Ac HB2.out _).setCell HW.out _⟩⟩
           ·rw [if_neg hj] at H;exact absurd H (by simp)
       ·rw [if_neg e4] at H;exact absurd H (by simp)
      ·rw [if_neg e3] at H;exact absurd H (by simp)
     ·rw [if_neg e2] at H;exact absurd H (by simp)
    ·rw [if_neg e1] at H;have e1b:decide (i<(s.size:Int))=false:=Wp e1;clear e1;simp only [AT,If] at H;obtain ⟨rfl,rfl,rfl,rfl⟩:=H;go_wp2
     go_quiet (fail)
     go_wp2;refine bodyPost_ret (II (rs:=[.tmp 2,.tmp 3,.tmp 4,.tmp 5]) rfl (by simp) (.tmp (.tmp (.tmp (.tmp .nil))))) rfl ?_;exact ⟨rfl,Ac HB2.out _⟩
 ·replace c1:=WJ.mpr c1;subst c1;rw [if_neg (by decide)] at h;simp only [AT,If] at h;obtain ⟨rfl,rfl,rfl,rfl⟩:=h;go_enter Tryz.func36,Tryz.ntmps36
  go_wp2_with (first
   | (go_at_call 30;refine (CD.calls k a0 s false _ A1.out (by first | exact HTAB_.out | exact HTAB_.out.below (by repeat (first | (with_reducible first | exact HB.out | apply Ad | apply Ac | apply Ae) | exact HB.out)))).mono ?_;rintro e w1 ⟨rfl,hb1⟩;have HB:=Aa.mk hb1;clear hb1))
  refine bodyPost_ret (II (rs:=[.tmp 2,.tmp 3,.tmp 4,.tmp 5]) rfl (by simp) (.tmp (.tmp (.tmp (.tmp .nil))))) rfl ?_;exact ⟨rfl,by repeat (first | (with_reducible first | exact HB.out | apply Ad | apply Ac | apply Ae) | exact HB.out)⟩

end
section
theorem J2 {f:Nat} {fn:Func} {xs:List Int} {res:List BV} (hf:Tryz.prog.funcs[f]?=some fn) (hn:(fn.name== "runtime.NumGoroutine")=false) (hb:fn.body.isSome=true)
  (run:∀ (A:Option Addr) (c:Nat) (w:World),TabW w->Kd.C (Kd.int .i64) w A xs.length xs->xs.length<=c->Calls Tryz.prog f #[.slice A xs.length c] w λe w'=>∃ v,e=.returned v/\Below w.heap.size w w'/\∀ ok,crvs ok w.heap.size w' res v):Ct f [.f .i xs] res:=by
 refine .mk1 hf hn hb λl w ok ht ha=>?_
 match l,ha with
 | [_],⟨h0,_⟩=>
  obtain ⟨A,c,rfl,h1,h2⟩:=Ox h0
  exact (run A c w ht h2 h1).mono λe w' ⟨v,h1,h2,h3⟩=>⟨v,h1,h2,h3 ok⟩
theorem Vm {ok:Nat->Prop} {w w':World} {v:Value} {xs:List Int} (h:Kd.V (Kd.int .i64) 3 w' w.heap.size (λk=>w.heap.size<=k) v xs):crv ok w.heap.size w' (.f .i xs) v:=by
 obtain ⟨A,c,h1,h2,h3⟩:=h;exact ⟨A,c,h1,h2,Kd.F_mono h3 λk hk=>.inr hk⟩
theorem Uc {ok:Nat->Prop} {b:Nat} {w':World} {v:Value} {τ:Ty} {xs:List τ.A} (h:crv ok b w' (.o τ xs) v):crv ok b w' (.f τ xs) v:=Kd.N_V (base':=0) h
theorem AQ.ct {k:Nat} {p0:List Int} {r0:Int} {r1:Bool} (h:AQ.f k p0=some (r0,r1)):Ct 54 [.f .i p0] [.i r0,.b r1]:=
 J2 Tryz.func54 rfl rfl λA c w _ h2 h1=>(AQ.calls k A c p0 r0 r1 w h2 h1 h).mono λ_ _ h=>⟨_,h.1,h.2,λ_=>E6 rfl rfl⟩
theorem AG.ct {k:Nat} {p0:List Int} {r0:Int} {r1:Bool} (h:AG.f k p0=some (r0,r1)):Ct 55 [.f .i p0] [.i r0,.b r1]:=
 J2 Tryz.func55 rfl rfl λA c w _ h2 h1=>(AG.calls k A c p0 r0 r1 w h2 h1 h).mono λ_ _ h=>⟨_,h.1,h.2,λ_=>E6 rfl rfl⟩
theorem Cw.ct {k:Nat} {p0:List Int} {r0:Int} {r1:Bool} (h:Cw.f k p0=some (r0,r1)):Ct 69 [.f .i p0] [.i r0,.b r1]:=
 J2 Tryz.func69 rfl rfl λA c w _ h2 h1=>(Cw.calls k A c p0 r0 r1 w h2 h1 h).mono λ_ _ h=>⟨_,h.1,h.2,λ_=>E6 rfl rfl⟩
theorem BW.ct {k:Nat} {p0:List Int} {r0:Int} {r1:Bool} (h:BW.f k p0=some (r0,r1)):Ct 70 [.f .i p0] [.i r0,.b r1]:=
 J2 Tryz.func70 rfl rfl λA c w _ h2 h1=>(BW.calls k A c p0 r0 r1 w h2 h1 h).mono λ_ _ h=>⟨_,h.1,h.2,λ_=>E6 rfl rfl⟩
theorem BL.ct {k:Nat} {p0:List Int} {r0:ByteArray} {r1:Bool} (h:BL.f k p0=some (r0,r1)):Ct 73 [.f .i p0] [.s r0,.b r1]:=
 J2 Tryz.func73 rfl rfl λA c w _ h2 h1=>(BL.calls k A c p0 r0 r1 w h2 h1 h).mono λ_ _ h=>⟨_,h.1,h.2,λ_=>E6 rfl rfl⟩
theorem Ba.ct {k:Nat} {p0:List Int} {r0:List Int} {r1:Bool} (h:Ba.f k p0=some (r0,r1)):Ct 67 [.f .i p0] [.f .i r0,.b r1]:=
 J2 Tryz.func67 rfl rfl λA c w _ h2 h1=>(Ba.calls k A c p0 r0 r1 w h2 h1 h).mono λ_ _ ⟨_,h1,h2,h3⟩=>⟨_,h1,h3,λ_=>E6 (Vm h2) rfl⟩
theorem AY.ct {k:Nat} {p0:List Int} {r0:Int} {r1:Bool} (h:AY.f k p0=some (r0,r1)):Ct 74 [.f .i p0] [.i r0,.b r1]:=
 J2 Tryz.func74 rfl rfl λA c w ht h2 h1=>(AY.calls k A c p0 r0 r1 w h2 h1 h ht).mono λ_ _ h=>⟨_,h.1,h.2,λ_=>E6 rfl rfl⟩
theorem AN.ct {k:Nat} {p0:List Int} {r0:Int} {r1:Bool} (h:AN.f k p0=some (r0,r1)):Ct 75 [.f .i p0] [.i r0,.b r1]:=
 J2 Tryz.func75 rfl rfl λA c w ht h2 h1=>(AN.calls k A c p0 r0 r1 w h2 h1 h ht).mono λ_ _ h=>⟨_,h.1,h.2,λ_=>E6 rfl rfl⟩
theorem AK.ct {k:Nat} {p0:List Int} {r0:List Int} {r1:Bool} (h:AK.f k p0=some (r0,r1)):Ct 125 [.f .i p0] [.f .i r0,.b r1]:=
 J2 Tryz.func125 rfl rfl λA c w ht h2 h1=>(AK.calls k A c p0 r0 r1 w h2 h1 h ht).mono λ_ _ ⟨_,h1,h2,h3⟩=>⟨_,h1,h3,λ_=>E6 (Uc (My (τ:=.i) (λe=>by cases e) h2)) rfl⟩
theorem Cy.ct {k:Nat} {p0:List Int} {r0:List Int} {r1:Bool} (h:Cy.f k p0=some (r0,r1)):Ct 51 [.f .i p0] [.o .i r0,.b r1]:=
 J2 Tryz.func51 rfl rfl λA c w _ h2 h1=>(Cy.calls k A c p0 r0 r1 w h2 h1 h).mono λ_ _ ⟨_,h1,h2,h3⟩=>⟨_,h1,h3,λ_=>E6 (My (τ:=.i) (λe=>by cases e) h2) rfl⟩
theorem QK {ok:Nat->Prop} {b:Nat} {w':World} {x y z t:BV} {u v s q:Value} (h1:crv ok b w' x u) (h2:crv ok b w' y v) (h3:crv ok b w' z s) (h4:crv ok b w' t q):crvs ok b w' [x,y,z,t] (.tuple #[u,v,s,q]):=
 ⟨_,rfl,rfl,λk z hz=>by
  rcases k with _ | _ | _ | _ | k
  ·cases hz;exact ⟨_,rfl,h1⟩
  ·cases hz;exact ⟨_,rfl,h2⟩
  ·cases hz;exact ⟨_,rfl,h3⟩
  ·cases hz;exact ⟨_,rfl,h4⟩
  ·simp at hz⟩
theorem Bi.ct {k:Nat} {p0:ByteArray} {r0:Int} {r1:Int} {r2:Int} {r3:Bool} (h:Bi.f k p0=some (r0,r1,r2,r3)):Ct 36 [.s p0] [.i r0,.i r1,.i r2,.b r3]:=by
 refine .mk1 Tryz.func36 rfl rfl λl w ok ht ha=>?_
 match l,ha with
 | [_],⟨rfl,_⟩=>exact (Bi.calls k p0 r0 r1 r2 r3 w h ht).mono λ_ _ h=>⟨_,h.1,h.2,QK rfl rfl rfl rfl⟩

end
section
theorem DN.ct {k:Nat} {p0:List Int} {r0:Bool}:DN.f k p0=some r0->Ct 57 [.f .i p0] [.b r0]:=by
 refine Ax Tryz.func57 rfl rfl rfl rfl ?_;unfold DN.f
 repeat' first
  | refine stp ?_
  | (with_reducible refine spr ?_;rintro ⟨⟩)
  | with_reducible refine And.intro ?_ ?_
  | intro h
  | refine RK.call (AQ.ct (by assumption)) rfl rfl rfl ?_
  | refine rks ?_
  | exact (rfl:_=_)
  | fail
theorem Eh.ct {k:Nat} {p0:List Int} {r0:Int} {r1:Bool}:Eh.f k p0=some (r0,r1)->Ct 68 [.f .i p0] [.i r0,.b r1]:=by
 refine Ax Tryz.func68 rfl rfl rfl rfl ?_;unfold Eh.f
 repeat' first
  | refine stp ?_
  | (with_reducible refine spr ?_;rintro ⟨⟩)
  | with_reducible refine And.intro ?_ ?_
  | intro h
  | refine RK.call (Ba.ct (by assumption)) rfl rfl rfl ?_
  | refine rks ?_
  | exact And.intro rfl rfl
  | fail
theorem Dq.ct {k:Nat} {p0:List Int} {r0:ByteArray} {r1:Bool}:Dq.f k p0=some (r0,r1)->Ct 78 [.f .i p0] [.s r0,.b r1]:=by
 refine Ax Tryz.func78 rfl rfl rfl rfl ?_;unfold Dq.f
 repeat' first
  | refine stp ?_
  | (with_reducible refine spr ?_;rintro ⟨⟩)
  | with_reducible refine And.intro ?_ ?_
  | intro h
  | refine RK.call (AK.ct (by assumption)) rfl rfl rfl ?_
  | refine RK.call (Bb.ct (by assumption)) rfl rfl rfl ?_
  | refine rks ?_
  | exact And.intro rfl rfl
  | fail

end
section
theorem Pn (w:World):Go.Sort.grow w #[]=w:=by simp [Go.Sort.grow]
theorem CV.calls (k:Nat) (A0:Option Addr) (c0:Nat) (l0:List Int) (r1:List Int) (r2:Bool) (w:World) (hr0:Kd.C (Kd.int .i64) w A0 l0.length l0) (hc0:l0.length<=c0) (h:CV.f k l0=some (r1,r2)) :
  Calls Tryz.prog 52 #[.slice A0 l0.length c0] w λe w'=>∃ v0_:Value,e=.returned (.tuple #[v0_,.bool r2])/\Kd.R (Kd.int .i64) 3 w' w.heap.size (λ_=>True) v0_ r1/\Below w.heap.size w w':=by
 have HR0:=Aa.mk hr0;have HC0:=Aa.mk hc0;clear hr0 hc0;obtain ⟨t,h1,h⟩:=By.mp h;have A1:=Aa.mk h1;clear h1;by_cases c3:t=true
 ·subst c3;rw [if_pos rfl] at h;obtain ⟨c,h2,h⟩:=By.mp h;simp only [AT,If] at h;obtain ⟨rfl,rfl⟩:=h
  have hpos:0<c.length/\c.length<1000:=by
   unfold Aj.f at h2;split at h2
   ·split at h2
    ·rw [<- AS h2];simp;omega
    ·exact absurd h2 (by simp)
   ·exact absurd h2 (by simp)
  have HP:=Aa.mk hpos;have A2:=Aa.mk h2;clear h2 hpos;go_enter Tryz.func52,Tryz.ntmps52
  go_wp2_with (first
   | (go_at_call 40;refine (Am.calls k _ _ l0 true _ (by repeat (first | exact HR0.out | (with_reducible refine Kd.C_drewN ?_ _) | (with_reducible refine Kd.C_drew ?_))) HC0.out A1.out).mono ?_;rintro e w1 ⟨rfl,⟨⟨n,rfl⟩⟩⟩)
   | (go_at_call 41;refine (Aj.calls k _ _ l0 c _ (by repeat (first | exact HR0.out | (with_reducible refine Kd.C_drewN ?_ _) | (with_reducible refine Kd.C_drew ?_))) HC0.out A2.out).mono ?_;rintro e w2 ⟨v2,rfl,hr2,hb2⟩;obtain ⟨g,cap,rfl,hg1,hg2,cells,hcell⟩:=Kd.R_form hr2 HP.out.1;have HR2:=Aa.mk hr2;have HB2:=Aa.mk (show Below w.heap.size w w2 from ⟨hb2.os,hb2.tape,hb2.output,hb2.size,hb2.block⟩);have HG:=Aa.mk (And.intro (show w.heap.size<=g from hg1) hg2);clear hr2 hb2 hg1 hg2 hcell))
  rcases (Kd.own_of_R HR2.out).2 with ⟨q0,_⟩ | ⟨g1,cap1,cur,q1,q2,q3,q4,q5,q6,q7⟩
  ·cases q0
  cases q1;have hsl:c.reverse.length=c.length:=List.length_reverse;have hH:Go.Sort.Holds (Value.int .i64) w2 g 0 c.toArray:=holds_of_blockI q3 (by rw [Nat.mul_one] at q7;exact q7);refine (Go.Proofs.YtlgojeodceiglaaGreatDoor.Shelf.Tryz.slices_Reverse_int g 0 cap c w2 hH (by have:=HP.out.2;omega)).mono ?_;rintro e w3 ⟨rfl,n,rfl⟩;have HO:=Aa.mk (show Kd.R (Kd.int .i64) 3 (Go.Sort.grow (Go.Sort.putRow (Value.int .i64) (Go.Sort.ahead w2 n) g 0 c.reverse.toArray) #[]) w.heap.size (λ_=>True) (.slice (some ⟨g,0,none⟩) c.length cap) c.reverse from Kd.R_of_own (by rw [hsl];exact ownsRow_sortedI hsl HG.out.1 q3 q4 q5 q6) (λ_ _=>trivial));have HB3:=Aa.mk (show Below w.heap.size w (Go.Sort.grow (Go.Sort.putRow (Value.int .i64) (Go.Sort.ahead w2 n) g 0 c.reverse.toArray) #[]) from Below.grown HB2.out (grownBy_sortedI _) HB2.out.size (λk hk=>by cases hk;exact HG.out.1))
  obtain ⟨w3,hw3⟩:∃ W:World,W=Go.Sort.putRow (Value.int .i64) (Go.Sort.ahead w2 n) g 0 c.reverse.toArray:=⟨_,rfl⟩
  rw [Pn] at HO HB3;rw [<- hw3] at HO HB3 ⊢;clear hw3 q3 hH;go_wp2;go_ret2;exact ⟨_,rfl,HO.out,HB3.out⟩
 ·replace c3:=WJ.mpr c3;subst c3;rw [if_neg (by decide)] at h;simp only [AT,If] at h;obtain ⟨rfl,rfl⟩:=h;go_enter Tryz.func52,Tryz.ntmps52
  go_wp2_with (first
   | (go_at_call 40;refine (Am.calls k _ _ l0 false _ (by repeat (first | exact HR0.out | (with_reducible refine Kd.C_drewN ?_ _) | (with_reducible refine Kd.C_drew ?_))) HC0.out A1.out).mono ?_;rintro e w1 ⟨rfl,⟨⟨n,rfl⟩⟩⟩))
  go_ret2;exact ⟨_,rfl,Kd.R_nil _ _ _ _ _,Ac (WG _ _) _⟩
theorem CV.ct {k:Nat} {p0:List Int} {r0:List Int} {r1:Bool} (h:CV.f k p0=some (r0,r1)):Ct 52 [.f .i p0] [.o .i r0,.b r1]:=
 J2 Tryz.func52 rfl rfl λA c w _ h2 h1=>(CV.calls k A c p0 r0 r1 w h2 h1 h).mono λ_ _ ⟨_,h1,h2,h3⟩=>⟨_,h1,h3,λ_=>E6 (My (τ:=.i) (λe=>by cases e) h2) rfl⟩

end
section
theorem CI.calls (k:Nat) (A0:Option Addr) (c0:Nat) (l0:List Int) (r:Bool) (w:World) (hr0:Kd.C (Kd.int .i64) w A0 l0.length l0) (hc0:l0.length<=c0) (h:CI.f k l0=some r) (ht:TabW w) :
  Calls Tryz.prog 98 #[.slice A0 l0.length c0] w λe w'=>e=.returned (.bool r)/\Below w.heap.size w w':=by
 refine ((CI.ct h).go [.slice A0 l0.length c0] w ht (λ_=>True) rfl λk x u h1 h2=>?_).mono λe w' ⟨h1,v,h2,h3⟩=>?_
 ·rcases k with _ | k
  ·cases h1;cases h2;exact P8 (τ:=.i) hr0 hc0
  ·simp at h1
 ·obtain rfl:v=.bool r:=h3;exact ⟨h2,h1⟩
theorem Pa (w:World):Calls Tryz.prog 41 #[.slice none 0 0] w λe w'=>e=.returned (.slice none 0 0)/\Below w.heap.size w w':=by
 have he:∀ W:World,(binOp .eql 32 (.slice none 0 0) (.slice none 0 0)).run Tryz.prog W=.ok (.bool true) W:=λ_=>rfl;go_enter Tryz.func41,Tryz.ntmps41;go_wp2;go_ret;exact ⟨rfl,by repeat (first | exact WG _ _ | apply Ac | apply Ae)⟩
structure PCI (n:Int) (gn gt gy gm:Nat) (w0 w:World) (m:Int):Prop where
 num:w.heap[gn]?=some (.cells #[.int .i64 n] 3 (0,0))
 tel:w.heap[gt]?=some (.cells #[.func (.func 97) #[] #[.pointer (some ⟨gm,0,none⟩)]] 71 (0,0))
 try_:w.heap[gy]?=some (.cells #[.func (.func 179) #[] #[.pointer (some ⟨gn,0,none⟩),.pointer (some ⟨gt,0,none⟩),.pointer (some ⟨gy,0,none⟩)]] 106 (0,0))
 cnt:w.heap[gm]?=some (.cells #[.int .i64 m] 3 (0,0))
 low:Below w0.heap.size w0 w
section
variable {n:Int} {gn gt gy gm:Nat} {w0 w w':World} {m:Int}
theorem PCI.below (h:PCI n gn gt gy gm w0 w m) (hb:Below w.heap.size w w'):PCI n gn gt gy gm w0 w' m:=
 ⟨Bl h.num hb,Bl h.tel hb,Bl h.try_ hb,Bl h.cnt hb,h.low.trans (Below.mono hb h.low.size)⟩
theorem PCI.put (m':Int) (h:PCI n gn gt gy gm w0 w m) (h1:w0.heap.size<=gm) (h2:gn≠gm):PCI n gn gt gy gm w0 (w.setCell ⟨gm,0,none⟩ (.int .i64 m')) m':=
 have b1:Below w0.heap.size w (w.setCell ⟨gm,0,none⟩ (.int .i64 m')):=(WG _ _).setCell h1 _;have n1:gt≠gm:=Gl h.tel h.cnt (by decide);have n2:gy≠gm:=Gl h.try_ h.cnt (by decide)
 ⟨E5 h.num h2 _,E5 h.tel n1 _,E5 h.try_ n2 _,Ce h.cnt 0 _ rfl,h.low.trans b1⟩
end
theorem PCI.tell (k:Nat) (A:Option Addr) (c:Nat) (l:List Int) (b:Bool) (n:Int) (gn gt gy gm:Nat) (w0 w:World) (m:Int) (ht:TabW w0) (hI:PCI n gn gt gy gm w0 w m) (h1:w0.heap.size<=gm) (h2:gn≠gm) (hr:Kd.C (Kd.int .i64) w A l.length l) (hc:l.length<=c) (h:CI.f k l=some b) :
  Calls Tryz.prog 97 #[.slice A l.length c,.pointer (some ⟨gm,0,none⟩)] w λe w'=>e=.returned (.bool true)/\PCI n gn gt gy gm w0 w' (if b=true then wrap64 (m+1) else m)/\w.heap.size<=w'.heap.size/\∀ k,k<w.heap.size->k≠gm->w'.heap[k]?=w.heap[k]?:=by
 have HI:=Aa.mk hI;have HT:=Aa.mk (ht.below hI.low);have HR:=Aa.mk hr;have HC:=Aa.mk hc;have H:=Aa.mk h;have HG:=Aa.mk (And.intro h1 h2);clear hI ht hr hc h h1 h2
 cases b with
 | true=>
  go_enter Tryz.func97,Tryz.ntmps97
  go_wp2_with (first | (go_at_call 98;refine (CI.calls k _ _ l true _ HR.out HC.out H.out HT.out).mono ?_;rintro e w1 ⟨rfl,hb⟩;have HB:=Aa.mk hb;have HI2:=Aa.mk (HI.out.below hb);clear hb;have cm:_=some _:=Ak HI2.out.cnt 0;have cf:=AD HI2.out.cnt 0))
  go_ret;refine ⟨rfl,HI2.out.put _ HG.out.1 HG.out.2,?_,λk hk hn=>?_⟩
  ·have:=HB.out.size;simpa [World.setCell] using this
  ·exact (Below.heap_setCell _ _ _ k hn).trans (HB.out.block k hk)
 | false=>
  go_enter Tryz.func97,Tryz.ntmps97
  go_wp2_with (first | (go_at_call 98;refine (CI.calls k _ _ l false _ HR.out HC.out H.out HT.out).mono ?_;rintro e w1 ⟨rfl,hb⟩;have HB:=Aa.mk hb;clear hb))
  go_ret;exact ⟨rfl,HI.out.below HB.out,HB.out.size,λk hk _=>HB.out.block k hk⟩
def PCL (w0 w:World) (gm:Nat) (A:Option Addr) (c:Nat) (l:List Int):Prop:=(l=[]/\A=none/\c=0)\/(0<l.length/\Kd.R (Kd.int .i64) 3 w w0.heap.size (λk=>k≠gm) (.slice A l.length c) l)
theorem PCL.step {w0 w w':World} {gm:Nat} {A:Option Addr} {c:Nat} {l:List Int} (h:PCL w0 w gm A c l) (hk:∀ k,k<w.heap.size->k≠gm->w'.heap[k]?=w.heap[k]?):PCL w0 w' gm A c l:=
 h.imp id λh=>⟨h.1,Kd.R_mono (Kd.R_step (Kd.R_bound h.2) (λk h _=>hk k h.2.2.1 h.1)) λk h=>h.1⟩
theorem PCL.C {w0 w:World} {gm:Nat} {A:Option Addr} {c:Nat} {l:List Int} (h:PCL w0 w gm A c l):Kd.C (Kd.int .i64) w A l.length l/\l.length<=c:=by
 rcases h with ⟨rfl,rfl,rfl⟩ | h
 ·exact ⟨Kd.C_nil _ _,Wn _⟩
 ·exact ⟨(Kd.R_reads' h.2).2.2,(Kd.R_reads' h.2).2.1⟩
theorem PCL.clone {w0 w:World} {gm k B:Nat} {A:Option Addr} {c:Nat} {l r:List Int} (hl:PCL w0 w gm A c l) (hw:B<=w.heap.size) (h:(if 0<l.length then Aj.f k l else some [])=some r) :
  Calls Tryz.prog 41 #[.slice A l.length c] w λe w'=>∃ A1 c1,e=.returned (.slice A1 r.length c1)/\Kd.R (Kd.int .i64) 3 w' B (λ_=>True) (.slice A1 r.length c1) r/\Below w.heap.size w w':=by
 by_cases h0:0<l.length
 ·rw [if_pos h0] at h;refine (Aj.calls k A c l r w hl.C.1 hl.C.2 h).mono ?_;rintro e w' ⟨v,rfl,h2,h3⟩;obtain ⟨A1,c1,rfl⟩:=Kd.R_slice h2;exact ⟨A1,c1,rfl,Kd.R_lower h2 hw,h3⟩
 ·rw [if_neg h0] at h;obtain rfl:=AS h;rcases hl with ⟨rfl,rfl,rfl⟩ | h
  ·refine (Pa w).mono ?_;rintro e w' ⟨h1,h2⟩;exact ⟨none,0,h1,Kd.R_nil _ _ _ _ _,h2⟩
  ·exact absurd h.1 h0
theorem PCA {ops:Array Oper} {o:Oper} {a:Act} {w w0:World} {K:Act->World->Prop} {Q:Exit->Act->World->Prop} {E:Prop} (xs:List Int) (q:Int) (A:Option Addr) (c g0:Nat) (hgd:o.guard=none) (s x:Operand)
  (ho:o.op=.call { callee:=.builtin .append,args:=#[s,x],argTypes:=#[32,32] })
  (hs:a.eval s=.slice A xs.length c) (hR:Kd.R (Kd.int .i64) 3 w w0.heap.size (λ_=>True) (.slice A xs.length c) xs) (hx:a.eval x=.slice (some ⟨g0,0,none⟩) 1 1) (hb:w.heap[g0]?=some (.cells #[.int .i64 q] 3 (0,0))) (hlen:xs.length<1000) (hB:Below w0.heap.size w0 w)
  (h:∀ (l1:List Int) g cap w',l1=xs++[q]->Kd.R (Kd.int .i64) 3 w' w0.heap.size (λ_=>True) (.slice (some ⟨g,0,none⟩) l1.length cap) l1->Below w0.heap.size w0 w'->K (a.put o.dst (.slice (some ⟨g,0,none⟩) l1.length cap)) w') :
  if Region.wanted o (yielded ops a.tmps)=true then Oper.wp Tryz.prog o a w K Q else E:=by
 obtain ⟨i0,hi0,hz0,hz1,hz2⟩:=info_parts info3;have hown:=Kd.own_of_R hR;refine step_append_lies w hgd s x 32 ho w0.heap.size 3 i0 (.int .i64 0) 1 8 Tryz.underlying32 hi0 hz0 hz1 hz2 rfl (by decide) (.slice A xs.length c) xs.length (encs (Value.int .i64) xs) hs hown ⟨g0,0,none⟩ 1 1 [.int .i64 q] hx rfl (World.news_of_block hb) (by simp [Value.oneCell']) (by decide) (by unfold maxLen;omega) (by omega) hB.size w.heap.size rfl ?_;intro g cap w' h1 h2 h3 h4;have e1:xs.length+1=(xs++[q]).length:=by simp
 have e2:encs (Value.int .i64) (xs++[q])=encs (Value.int .i64) xs++[.int .i64 q]:=by simp [encs]
 rw [e1,<- e2] at h1;rw [e1];exact h _ g cap w' rfl (Kd.R_of_own (enc:=Value.int .i64) (h1:=λ_=>rfl) (xs:=xs++[q]) h1 (λ_ _=>trivial)) (Below.grown hB h2 hB.size (Gg hown))
theorem LX {k:Nat} {l r:List Int} (h:(if 0<l.length then Aj.f k l else some [])=some r):r=l/\r.length<1000:=by
 unfold Aj.f at h;by_cases h0:0<l.length
 ·rw [if_pos h0,if_pos h0] at h;by_cases h1:l.length<1000
  ·rw [if_pos h1] at h;obtain rfl:=AS h;exact ⟨by simp,by simpa using h1⟩
  ·rw [if_neg h1] at h;cases h
 ·rw [if_neg h0] at h;obtain rfl:=AS h;exact ⟨(List.eq_nil_of_length_eq_zero (by omega)).symm,by simp⟩
theorem Ft {W w1:World} {o:Obj} (h:Below (W.alloc o).drew.heap.size (W.alloc o).drew w1):w1.heap[W.heap.size]?=some o:=Bl (w:=(W.alloc o).drew) (show (W.alloc o).drew.heap[W.heap.size]?=some o from heap_alloc_new W o) h
theorem PCI.tries (n:Int) (gn gt gy gm:Nat) (w0:World) (ht:TabW w0) (h1:w0.heap.size<=gm) (h2:gn≠gm) :
  ∀ (k:Nat) (l:List Int) (q m m':Int) (A:Option Addr) (c:Nat) (w:World),AL.t n k 0 l q 0 m=some m'->PCI n gn gt gy gm w0 w m->PCL w0 w gm A c l->
  Calls Tryz.prog 179 #[.slice A l.length c,.int .i64 q,.pointer (some ⟨gn,0,none⟩),.pointer (some ⟨gt,0,none⟩),.pointer (some ⟨gy,0,none⟩)] w λe w'=>e=.returned (.bool true)/\PCI n gn gt gy gm w0 w' m'/\w.heap.size<=w'.heap.size/\∀ k,k<w.heap.size->k≠gm->w'.heap[k]?=w.heap[k]?:=by
 have HG:=Aa.mk (And.intro ht (And.intro h1 h2));clear ht h1 h2;intro k
 induction k using Nat.strongRecOn with
 | ind k ih0=>
 intro l q m m' A c w h hI hL;have IH:=Aa.mk ih0;clear ih0;have HI:=Aa.mk hI;have HL:=Aa.mk hL;clear hI hL
 cases k with
 | zero=>simp [AL.t] at h
 | succ k=>
 have cn:_=some _:=Ak HI.out.num 0;have ct:_=some _:=Ak HI.out.tel 0;have cy:_=some _:=Ak HI.out.try_ 0;by_cases c0:0<l.length
 ·simp only [AL.t,if_pos c0] at h;have c0b:decide (0<l.length)=true:=Wo (by omega);have c0d:(0<l.length)=True:=eq_true c0;have hm:=Kd.C_max HL.out.C.1;have x0:0<=wrap64 ((l.length:Int)-1):=by unfold wrap64;omega
  have x1:wrap64 ((l.length:Int)-1)<(l.length:Int):=by unfold wrap64;omega
  obtain ⟨ad,e1,hx⟩:=Kd.at_int HL.out.C.1 (wrap64 ((l.length:Int)-1)) x0 x1;subst e1;have px0:=eq_true x0;have px1:=eq_true x1;clear x0 x1 hm;have HK:=Aa.mk (show 0<l.length/\True from ⟨c0,trivial⟩);clear c0
  obtain ⟨lw,hlw⟩:∃ x:Int,rd l (wrap64 ((l.length:Int)-1))=x:=⟨_,rfl⟩
  rw [hlw] at h hx;clear hlw;by_cases c1:wrap64 (n-(l.length:Int))=1
  ·rw [if_pos c1] at h;have c1b:(wrap64 (n-(l.length:Int))==1)=true:=beq_iff_eq.mpr c1;clear c1;by_cases c2:q<lw
   ·rw [if_pos c2] at h;have c2b:decide (q<lw)=true:=Wo c2;clear c2;obtain rfl:=AS h;clear h;go_enter Tryz.func179,Tryz.ntmps179;go_wp2;go_ret;exact ⟨rfl,HI.out,Wn _,λ_ _ _=>rfl⟩
   ·rw [if_neg c2] at h;have c2b:decide (q<lw)=false:=Wp c2;clear c2;obtain ⟨cs,hcs,h⟩:=By.mp h;obtain ⟨b,hb,h⟩:=By.mp h
    obtain ⟨m1,hm1⟩:∃ x:Int,(if b=true then wrap64 (m+1) else m)=x:=⟨_,rfl⟩
    rw [hm1] at h;obtain rfl:=AS h;have HM1:=Aa.mk hm1;clear hm1;have HCS:=Aa.mk (show (if 0<l.length then Aj.f k l else some [])=some cs by simpa [c0d] using hcs);have HB:=Aa.mk hb;have HCL:=Aa.mk (LX HCS.out);clear h hcs hb;go_enter Tryz.func179,Tryz.ntmps179;go_wp2
    go_region_held3 (λw'=>w'.cell? ⟨gt,0,none⟩=some (.func (.func 97) #[] #[.pointer (some ⟨gm,0,none⟩)])) (first | exact Ak HI3.out.tel 0 | exact Ak (Bl HI.out.tel (by repeat (first | assumption | exact WG _ _ | apply Ac | apply Ae | apply Ad))) 0) (first | (go_at_call 41;refine (PCL.clone (k:=k) (B:=w.heap.size) (HL.out.step (λk hk _=>(show Below w.heap.size w _ from ?hb).block k hk)) (show Below w.heap.size w _ from ?hb).size HCS.out).mono ?_;(case hb=>exact (by repeat (first | assumption | exact WG _ _ | apply Ac | apply Ae | apply Ad)));rintro e w1 ⟨A1,c1,rfl,hr1,hb1⟩;have HR1:=Aa.mk hr1;have hb2:Below w.heap.size w w1:=Bt (by repeat (first | assumption | exact WG _ _ | apply Ac | apply Ae | apply Ad)) hb1;have HB1:=Aa.mk hb1;clear hb1 hr1) | (go_at_call 97;refine (PCI.tell k _ _ l2 b n gn gt gy gm w0 _ m HG.out.1 (HI.out.below (by assumption)) HG.out.2.1 HG.out.2.2 (Kd.R_reads' HR2.out).2.2 (Kd.R_reads' HR2.out).2.1 (by rw [HE2.out];exact HB.out)).mono ?_;rintro e w3 ⟨rfl,hi3,hs3,hk3⟩;rw [HM1.out] at hi3;have HI3:=Aa.mk hi3;have HS3:=Aa.mk hs3;have HK3:=Aa.mk hk3;clear hi3 hs3 hk3) | (refine PCA (w0:=w) cs q A1 c1 _ rfl (.tmp 31) (.tmp 33) rfl rfl ?aR rfl ?aB ?aL (by repeat (first | assumption | exact WG _ _ | apply Ac | apply Ae | apply Ad)) ?_;(case aR=>first | exact HR1.out | exact Kd.R_alloc HR1.out _);(case aB=>first | exact Ft HB1.out | exact heap_alloc_new _ _);(case aL=>have:=HCL.out;omega);intro l2 g2 c2 w2 he2 hr2 hb3;have HE2:=Aa.mk he2;have HR2:=Aa.mk hr2;clear hr2 he2))
    all_goals
     go_wp2;go_ret;exact ⟨rfl,HI3.out,WA (Below.size hb3) HS3.out,λk hk hn=>(HK3.out k (WK hk (Below.size hb3)) hn).trans (Below.block hb3 k hk)⟩
  ·rw [if_neg c1] at h;have c1b:(wrap64 (n-(l.length:Int))==1)=false:=beq_eq_false_iff_ne.mpr c1;clear c1;have H:=Aa.mk h;clear h;go_enter Tryz.func179,Tryz.ntmps179;go_wp2
   go_loopg [10] k (λkq v10 w'=>∃ (x m1:Int),v10=.int .i64 x/\Aa (AL.t n kq 1 l q x m1=some m')/\Aa (kq<=k)/\Aa (PCI n gn gt gy gm w0 w' m1)/\Aa (w.heap.size<=w'.heap.size/\∀ k,k<w.heap.size->k≠gm->w'.heap[k]?=w.heap[k]?))
   case atStart=>exact ⟨lw,m,(by first | rfl | (simp;done) | (simp [*];done)),H,⟨Wn _⟩,HI,⟨Wn _,λ_ _ _=>rfl⟩⟩
   case round=>
    clear H cn ct cy;clear hx px0 px1 HK;obtain ⟨x,mx,rfl,HA,HKq,HI2,HS2⟩:=hrel
    cases gk with
    | zero=>exact absurd HA.out (by simp [AL.t])
    | succ k1=>
     have h:=HA.out;clear HA;rw [AL.t] at h;have cy:_=some _:=Ak HI2.out.try_ 0;by_cases d1:wrap64 (x*wrap64 (n-(l.length:Int)))<=q
     ·rw [if_pos d1] at h;have d1b:decide (wrap64 (x*wrap64 (n-(l.length:Int)))<=q)=true:=Wo d1;clear d1;obtain ⟨cs,hcs,h⟩:=By.mp h;obtain ⟨m1,hm1,h⟩:=By.mp h
      obtain ⟨y,hy⟩:∃ y:Int,wrap64 (q-x)=y:=⟨_,rfl⟩
      rw [hy] at hm1;have hyw:IntKind.i64.wrap (q-x)=y:=(C9 _).trans hy;clear hy;have HCS:=Aa.mk hcs;have HCL:=Aa.mk (LX hcs);have HM1:=Aa.mk hm1;have H:=Aa.mk h;clear h hcs hm1;go_wp2
      go_region_held3 (λw'=>w'.cell? ⟨gy,0,none⟩=some (.func (.func 179) #[] #[.pointer (some ⟨gn,0,none⟩),.pointer (some ⟨gt,0,none⟩),.pointer (some ⟨gy,0,none⟩)])) (first | exact Ak HI3.out.try_ 0 | exact Ak (Bl HI2.out.try_ (by repeat (first | assumption | exact WG _ _ | apply Ac | apply Ae | apply Ad))) 0) (first | (go_at_call 41;refine (PCL.clone (k:=k1) (B:=wr.heap.size) ((HL.out.step HS2.out.2).step (λk hk _=>(show Below wr.heap.size wr _ from ?hb).block k hk)) (show Below wr.heap.size wr _ from ?hb).size HCS.out).mono ?_;(case hb=>exact (by repeat (first | assumption | exact WG _ _ | apply Ac | apply Ae | apply Ad)));rintro e w1 ⟨A1,c1,rfl,hr1,hb1⟩;have HR1:=Aa.mk hr1;have hb2:Below wr.heap.size wr w1:=Bt (by repeat (first | assumption | exact WG _ _ | apply Ac | apply Ae | apply Ad)) hb1;have HB1:=Aa.mk hb1;clear hb1 hr1) | (go_at_call 179;refine (IH.out k1 (by have:=HKq.out;omega) l2 y mx m1 (some ⟨g2,0,none⟩) c2 _ (by rw [HE2.out];exact HM1.out) (HI2.out.below hb3) (.inr ⟨by rw [HE2.out];simp,Kd.R_lower (Kd.R_mono (Kd.R_bound HR2.out) λk hk=>by have:=hk.2.1;have:=Dp HI2.out.cnt;omega) HI2.out.low.size⟩)).mono ?_;rintro e w3 ⟨rfl,hi3,hs3,hk3⟩;have HI3:=Aa.mk hi3;have HS3:=Aa.mk hs3;have HK3:=Aa.mk hk3;clear hi3 hs3 hk3) | (refine PCA (w0:=wr) cs x A1 c1 _ rfl (.tmp 46) (.tmp 48) rfl rfl ?aR rfl ?aB ?aL (by repeat (first | assumption | exact WG _ _ | apply Ac | apply Ae | apply Ad)) ?_;(case aR=>first | exact HR1.out | exact Kd.R_alloc HR1.out _);(case aB=>first | exact Ft HB1.out | exact heap_alloc_new _ _);(case aL=>have:=HCL.out;omega);intro l2 g2 c2 w2 he2 hr2 hb3;have HE2:=Aa.mk he2;have HR2:=Aa.mk hr2;clear hr2 he2))
      all_goals
       go_wp2
       go_roundg k1
       case measure=>omega
       case rel=>exact ⟨wrap64 (x+1),m1,(by first | rfl | (simp;done) | (simp [*];done)),H,⟨by have:=HKq.out;omega⟩,HI3,⟨WA HS2.out.1 (WA (Below.size hb3) HS3.out),λk hk hn=>((HK3.out k (WK (WK hk HS2.out.1) (Below.size hb3)) hn).trans (Below.block hb3 k (WK hk HS2.out.1))).trans (HS2.out.2 k hk hn)⟩⟩
     ·rw [if_neg d1] at h;have d1b:decide (wrap64 (x*wrap64 (n-(l.length:Int)))<=q)=false:=Wp d1;clear d1;obtain rfl:=AS h;clear h;go_wp2;go_ret;exact ⟨rfl,HI2.out,HS2.out⟩
 ·rw [AL.t] at h;simp only [if_neg c0] at h;have c0b:decide (0<l.length)=false:=Wp (by omega);have c0d:(0<l.length)=False:=eq_false c0;clear c0;by_cases c1:wrap64 (n-(l.length:Int))=1
  ·rw [if_pos c1] at h;have c1b:(wrap64 (n-(l.length:Int))==1)=true:=beq_iff_eq.mpr c1;clear c1;by_cases c2:q<1
   ·rw [if_pos c2] at h;have c2b:decide (q<1)=true:=Wo c2;clear c2;obtain rfl:=AS h;clear h;go_enter Tryz.func179,Tryz.ntmps179;go_wp2;go_ret;exact ⟨rfl,HI.out,Wn _,λ_ _ _=>rfl⟩
   ·rw [if_neg c2] at h;have c2b:decide (q<1)=false:=Wp c2;clear c2;obtain ⟨cs,hcs,h⟩:=By.mp h;obtain ⟨b,hb,h⟩:=By.mp h
    obtain ⟨m1,hm1⟩:∃ x:Int,(if b=true then wrap64 (m+1) else m)=x:=⟨_,rfl⟩
    rw [hm1] at h;obtain rfl:=AS h;have HM1:=Aa.mk hm1;clear hm1;have HCS:=Aa.mk (show (if 0<l.length then Aj.f k l else some [])=some cs by simpa [c0d] using hcs);have HB:=Aa.mk hb;have HCL:=Aa.mk (LX HCS.out);clear h hcs hb;go_enter Tryz.func179,Tryz.ntmps179;go_wp2
    go_region_held3 (λw'=>w'.cell? ⟨gt,0,none⟩=some (.func (.func 97) #[] #[.pointer (some ⟨gm,0,none⟩)])) (first | exact Ak HI3.out.tel 0 | exact Ak (Bl HI.out.tel (by repeat (first | assumption | exact WG _ _ | apply Ac | apply Ae | apply Ad))) 0) (first | (go_at_call 41;refine (PCL.clone (k:=k) (B:=w.heap.size) (HL.out.step (λk hk _=>(show Below w.heap.size w _ from ?hb).block k hk)) (show Below w.heap.size w _ from ?hb).size HCS.out).mono ?_;(case hb=>exact (by repeat (first | assumption | exact WG _ _ | apply Ac | apply Ae | apply Ad)));rintro e w1 ⟨A1,c1,rfl,hr1,hb1⟩;have HR1:=Aa.mk hr1;have hb2:Below w.heap.size w w1:=Bt (by repeat (first | assumption | exact WG _ _ | apply Ac | apply Ae | apply Ad)) hb1;have HB1:=Aa.mk hb1;clear hb1 hr1) | (go_at_call 97;refine (PCI.tell k _ _ l2 b n gn gt gy gm w0 _ m HG.out.1 (HI.out.below (by assumption)) HG.out.2.1 HG.out.2.2 (Kd.R_reads' HR2.out).2.2 (Kd.R_reads' HR2.out).2.1 (by rw [HE2.out];exact HB.out)).mono ?_;rintro e w3 ⟨rfl,hi3,hs3,hk3⟩;rw [HM1.out] at hi3;have HI3:=Aa.mk hi3;have HS3:=Aa.mk hs3;have HK3:=Aa.mk hk3;clear hi3 hs3 hk3) | (refine PCA (w0:=w) cs q A1 c1 _ rfl (.tmp 31) (.tmp 33) rfl rfl ?aR rfl ?aB ?aL (by repeat (first | assumption | exact WG _ _ | apply Ac | apply Ae | apply Ad)) ?_;(case aR=>first | exact HR1.out | exact Kd.R_alloc HR1.out _);(case aB=>first | exact Ft HB1.out | exact heap_alloc_new _ _);(case aL=>have:=HCL.out;omega);intro l2 g2 c2 w2 he2 hr2 hb3;have HE2:=Aa.mk he2;have HR2:=Aa.mk hr2;clear hr2 he2))
    all_goals
     go_wp2;go_ret;exact ⟨rfl,HI3.out,WA (Below.size hb3) HS3.out,λk hk hn=>(HK3.out k (WK hk (Below.size hb3)) hn).trans (Below.block hb3 k hk)⟩
  ·rw [if_neg c1] at h;have c1b:(wrap64 (n-(l.length:Int))==1)=false:=beq_eq_false_iff_ne.mpr c1;clear c1;have H:=Aa.mk h;clear h;go_enter Tryz.func179,Tryz.ntmps179;go_wp2
   go_loopg [10] k (λkq v10 w'=>∃ (x m1:Int),v10=.int .i64 x/\Aa (AL.t n kq 1 l q x m1=some m')/\Aa (kq<=k)/\Aa (PCI n gn gt gy gm w0 w' m1)/\Aa (w.heap.size<=w'.heap.size/\∀ k,k<w.heap.size->k≠gm->w'.heap[k]?=w.heap[k]?))
   case atStart=>exact ⟨1,m,(by first | rfl | (simp;done) | (simp [*];done)),H,⟨Wn _⟩,HI,⟨Wn _,λ_ _ _=>rfl⟩⟩
   case round=>
    clear H cn ct cy
    skip
    obtain ⟨x,mx,rfl,HA,HKq,HI2,HS2⟩:=hrel
    cases gk with
    | zero=>exact absurd HA.out (by simp [AL.t])
    | succ k1=>
     have h:=HA.out;clear HA;rw [AL.t] at h;have cy:_=some _:=Ak HI2.out.try_ 0;by_cases d1:wrap64 (x*wrap64 (n-(l.length:Int)))<=q
     ·rw [if_pos d1] at h;have d1b:decide (wrap64 (x*wrap64 (n-(l.length:Int)))<=q)=true:=Wo d1;clear d1;obtain ⟨cs,hcs,h⟩:=By.mp h;obtain ⟨m1,hm1,h⟩:=By.mp h
      obtain ⟨y,hy⟩:∃ y:Int,wrap64 (q-x)=y:=⟨_,rfl⟩
      rw [hy] at hm1;have hyw:IntKind.i64.wrap (q-x)=y:=(C9 _).trans hy;clear hy;have HCS:=Aa.mk hcs;have HCL:=Aa.mk (LX hcs);have HM1:=Aa.mk hm1;have H:=Aa.mk h;clear h hcs hm1;go_wp2
      go_region_held3 (λw'=>w'.cell? ⟨gy,0,none⟩=some (.func (.func 179) #[] #[.pointer (some ⟨gn,0,none⟩),.pointer (some ⟨gt,0,none⟩),.pointer (some ⟨gy,0,none⟩)])) (first | exact Ak HI3.out.try_ 0 | exact Ak (Bl HI2.out.try_ (by repeat (first | assumption | exact WG _ _ | apply Ac | apply Ae | apply Ad))) 0) (first | (go_at_call 41;refine (PCL.clone (k:=k1) (B:=wr.heap.size) ((HL.out.step HS2.out.2).step (λk hk _=>(show Below wr.heap.size wr _ from ?hb).block k hk)) (show Below wr.heap.size wr _ from ?hb).size HCS.out).mono ?_;(case hb=>exact (by repeat (first | assumption | exact WG _ _ | apply Ac | apply Ae | apply Ad)));rintro e w1 ⟨A1,c1,rfl,hr1,hb1⟩;have HR1:=Aa.mk hr1;have hb2:Below wr.heap.size wr w1:=Bt (by repeat (first | assumption | exact WG _ _ | apply Ac | apply Ae | apply Ad)) hb1;have HB1:=Aa.mk hb1;clear hb1 hr1) | (go_at_call 179;refine (IH.out k1 (by have:=HKq.out;omega) l2 y mx m1 (some ⟨g2,0,none⟩) c2 _ (by rw [HE2.out];exact HM1.out) (HI2.out.below hb3) (.inr ⟨by rw [HE2.out];simp,Kd.R_lower (Kd.R_mono (Kd.R_bound HR2.out) λk hk=>by have:=hk.2.1;have:=Dp HI2.out.cnt;omega) HI2.out.low.size⟩)).mono ?_;rintro e w3 ⟨rfl,hi3,hs3,hk3⟩;have HI3:=Aa.mk hi3;have HS3:=Aa.mk hs3;have HK3:=Aa.mk hk3;clear hi3 hs3 hk3) | (refine PCA (w0:=wr) cs x A1 c1 _ rfl (.tmp 46) (.tmp 48) rfl rfl ?aR rfl ?aB ?aL (by repeat (first | assumption | exact WG _ _ | apply Ac | apply Ae | apply Ad)) ?_;(case aR=>first | exact HR1.out | exact Kd.R_alloc HR1.out _);(case aB=>first | exact Ft HB1.out | exact heap_alloc_new _ _);(case aL=>have:=HCL.out;omega);intro l2 g2 c2 w2 he2 hr2 hb3;have HE2:=Aa.mk he2;have HR2:=Aa.mk hr2;clear hr2 he2))
      all_goals
       go_wp2
       go_roundg k1
       case measure=>omega
       case rel=>exact ⟨wrap64 (x+1),m1,(by first | rfl | (simp;done) | (simp [*];done)),H,⟨by have:=HKq.out;omega⟩,HI3,⟨WA HS2.out.1 (WA (Below.size hb3) HS3.out),λk hk hn=>((HK3.out k (WK (WK hk HS2.out.1) (Below.size hb3)) hn).trans (Below.block hb3 k (WK hk HS2.out.1))).trans (HS2.out.2 k hk hn)⟩⟩
     ·rw [if_neg d1] at h;have d1b:decide (wrap64 (x*wrap64 (n-(l.length:Int)))<=q)=false:=Wp d1;clear d1;obtain rfl:=AS h;clear h;go_wp2;go_ret;exact ⟨rfl,HI2.out,HS2.out⟩
theorem F1 {W:World} {o:Obj} {k:Nat} (h:k=W.heap.size):(W.alloc o).heap[k]?=some o:=by rw [h];exact heap_alloc_new W o
theorem MI.calls (k:Nat) (n p m:Int) (gm:Nat) (w0 w:World) (ht:TabW w0) (h1:w0.heap.size<=gm) (hc:w.heap[gm]?=some (.cells #[.int .i64 0] 3 (0,0))) (hb:Below w0.heap.size w0 w) (h:AL.t n k 0 [] p 0 0=some m) :
  Calls Tryz.prog 96 #[.int .i64 n,.int .i64 p,.func (.func 97) #[] #[.pointer (some ⟨gm,0,none⟩)]] w λe w'=>e=.returned (.tuple #[])/\w'.heap[gm]?=some (.cells #[.int .i64 m] 3 (0,0))/\Below w0.heap.size w0 w':=by
 have hlt:=Dp hc;have HT:=Aa.mk (PCI.tries n w.heap.size (w.heap.size+1) (w.heap.size+1+1) gm w0 ht h1 (by omega) k [] p 0 m none 0);have H:=Aa.mk h;have HC:=Aa.mk hc;have HB:=Aa.mk hb;clear h ht h1 hc hb hlt;have hmf:∀ (fn:Fn) (first cap:Array Value) (w:World),(Instr.makeFunc fn first cap).run Tryz.prog w=.ok (.func fn first cap) w:=λ_ _ _ _=>rfl;have hsf:∀ (w:World) (a:Addr) (fn:Fn) (first cap:Array Value),(Go.store a (.func fn first cap)).run Tryz.prog w=stored Tryz.prog w a (.func fn first cap) .plain:=λw a fn first cap=>run_store _ w a _ _ rfl
 have by_:(((w.alloc (Obj.cells #[.int .i64 n] 3)).alloc (Obj.cells #[.func (.func 97) #[] #[.pointer (some ⟨gm,0,none⟩)]] 71)).alloc (Obj.cells #[.nilFunc] 106)).heap[w.heap.size+1+1]?=some (Obj.cells #[.nilFunc] 106):=F1 (by simp);have cy:_=some _:=Ak by_ 0;have fy:=AD by_ 0;have BY:=Aa.mk by_;clear by_;go_enter Tryz.func96,Tryz.ntmps96
 go_wp2_with fail
 have hcw:=HC.out;refine (HT.out _ H.out ⟨?_,?_,?_,?_,?_⟩ (.inl ⟨rfl,rfl,rfl⟩)).mono ?_
 ·repeat (first | (refine F1 ?_;simp;done) | refine B3 ?_ _)
 ·repeat (first | (refine F1 ?_;simp;done) | refine B3 ?_ _)
 ·repeat (first | (refine F1 ?_;simp;done) | refine B3 ?_ _)
 ·exact B3 (B3 (B3 hcw _) _) _
 ·exact HB.out.trans (Below.mono (Ad (Ad (Ad (WG _ _) _) _) _) HB.out.size)
 rintro e w1 ⟨rfl,hI,_⟩;have HI:=Aa.mk hI;clear hI hcw;go_wp2;go_end0;exact ⟨rfl,HI.out.cnt,HI.out.low⟩
theorem AL.calls (k:Nat) (a0 a1 r1:Int) (r2:Bool) (w:World) (ht:TabW w) (h:AL.f k a0 a1=some (r1,r2)) :
  Calls Tryz.prog 47 #[.int .i64 a0,.int .i64 a1] w λe w'=>e=.returned (.tuple #[.int .i64 r1,.bool r2])/\Below w.heap.size w w':=by
 unfold AL.f at h;by_cases hc:a0<3\/a0>6\/a1<1\/a1>30
 ·rw [if_pos hc] at h;simp only [AT,If] at h;obtain ⟨rfl,rfl⟩:=h;have hd:(a0<3\/6<a0\/a1<1\/30<a1)=True:=eq_true hc;have hd1:(decide (a0<3)||decide (6<a0)||decide (a1<1)||decide (30<a1))=true:=by simpa [or_assoc] using hc
  have hd2:(((a0<3\/6<a0)\/a1<1)\/30<a1)=True:=eq_true (by simpa [or_assoc] using hc);clear hc;go_enter Tryz.func47,Tryz.ntmps47;go_wp2
  all_goals
   go_ret2;exact ⟨rfl,by repeat (first | exact WG _ _ | apply Ac | apply Ae)⟩
 ·rw [if_neg hc] at h;obtain ⟨m,hm,h⟩:=By.mp h;simp only [AT,If] at h;obtain ⟨rfl,rfl⟩:=h;have c1:(a0<3)=False:=eq_false (by omega);have c2:(6<a0)=False:=eq_false (by omega);have c3:(a1<1)=False:=eq_false (by omega);have c4:(30<a1)=False:=eq_false (by omega);have H:=Aa.mk hm;have HT:=Aa.mk ht;clear hc hm ht;have hmf:∀ (fn:Fn) (first cap:Array Value) (w:World),(Instr.makeFunc fn first cap).run Tryz.prog w=.ok (.func fn first cap) w:=λ_ _ _ _=>rfl;have b0:(w.alloc (Obj.cells #[.int .i64 0] 3)).heap[w.heap.size]?=some (Obj.cells #[.int .i64 0] 3):=heap_alloc_new _ _;have cc:_=some _:=Ak b0 0;have cf:=AD b0 0;go_enter Tryz.func47,Tryz.ntmps47
  go_wp2_with (first | (go_at_call 96;refine (MI.calls k a0 a1 m w.heap.size w _ HT.out (Wn _) ?ac ?ab H.out).mono ?_;(case ac=>exact heap_alloc_new _ _);(case ab=>exact Ad (WG _ _) _);rintro e w1 ⟨rfl,hm1,hb1⟩;have cm:_=some _:=Ak hm1 0;have HB:=Aa.mk hb1;clear hm1 hb1))
  go_ret2;exact ⟨rfl,HB.out⟩
theorem AL.ct {k:Nat} {p0 p1 r0:Int} {r1:Bool} (h:AL.f k p0 p1=some (r0,r1)):Ct 47 [.i p0,.i p1] [.i r0,.b r1]:=by
 refine .mk1 Tryz.func47 rfl rfl λl w ok ht ha=>?_
 match l,ha with
 | [_,_],⟨rfl,rfl,_⟩=>exact (AL.calls k p0 p1 r0 r1 w ht h).mono λ_ _ h=>⟨_,h.1,h.2,E6 rfl rfl⟩

end
section
abbrev ops13:List Oper:=[{ dst:=some 61,op:=Op.makeMap 67 none,type:=67,pos:= "l12_command.go:115",after:=#[],guard:=none },{ dst:=none,op:=Op.insert 67 (Operand.tmp 61) (Operand.const (Value.string { data:=#[112,117,116] })) (Operand.const (Value.int IntKind.i64 1)),type:=0,pos:= "l12_command.go:115",after:=#[{ on:=0,ground:=Ground.data }],guard:=none },{ dst:=none,op:=Op.insert 67 (Operand.tmp 61) (Operand.const (Value.string { data:=#[100,114,111,112] })) (Operand.const (Value.int IntKind.i64 1)),type:=0,pos:= "l12_command.go:115",after:=#[{ on:=0,ground:=Ground.data }],guard:=none },{ dst:=none,op:=Op.insert 67 (Operand.tmp 61) (Operand.const (Value.string { data:=#[97,108,108] })) (Operand.const (Value.int IntKind.i64 1)),type:=0,pos:= "l12_command.go:115",after:=#[{ on:=0,ground:=Ground.data }],guard:=none },{ dst:=none,op:=Op.insert 67 (Operand.tmp 61) (Operand.const (Value.string { data:=#[114,111,117,110,100] })) (Operand.const (Value.int IntKind.i64 1)),type:=0,pos:= "l12_command.go:115",after:=#[{ on:=0,ground:=Ground.data }],guard:=none },{ dst:=none,op:=Op.insert 67 (Operand.tmp 61) (Operand.const (Value.string { data:=#[119,104,111,108,101] })) (Operand.const (Value.int IntKind.i64 1)),type:=0,pos:= "l12_command.go:115",after:=#[{ on:=0,ground:=Ground.data }],guard:=none },{ dst:=none,op:=Op.insert 67 (Operand.tmp 61) (Operand.const (Value.string { data:=#[112,111,108,121,115] })) (Operand.const (Value.int IntKind.i64 2)),type:=0,pos:= "l12_command.go:115",after:=#[{ on:=0,ground:=Ground.data }],guard:=none },{ dst:=none,op:=Op.insert 67 (Operand.tmp 61) (Operand.const (Value.string { data:=#[99,104,97,105,110] })) (Operand.const (Value.int IntKind.i64 1)),type:=0,pos:= "l12_command.go:115",after:=#[{ on:=0,ground:=Ground.data }],guard:=none },{ dst:=none,op:=Op.insert 67 (Operand.tmp 61) (Operand.const (Value.string { data:=#[115,111,108,105,100] })) (Operand.const (Value.int IntKind.i64 6)),type:=0,pos:= "l12_command.go:115",after:=#[{ on:=0,ground:=Ground.data }],guard:=none },{ dst:=none,op:=Op.insert 67 (Operand.tmp 61) (Operand.const (Value.string { data:=#[102,105,114,115,116] })) (Operand.const (Value.int IntKind.i64 6)),type:=0,pos:= "l12_command.go:115",after:=#[{ on:=0,ground:=Ground.data }],guard:=none },{ dst:=some 62,op:=Op.move (Operand.tmp 61),type:=67,pos:= "l12_command.go:115",after:=#[{ on:=0,ground:=Ground.data },{ on:=1,ground:=Ground.data },{ on:=2,ground:=Ground.data },{ on:=3,ground:=Ground.data },{ on:=4,ground:=Ground.data },{ on:=5,ground:=Ground.data },{ on:=6,ground:=Ground.data },{ on:=7,ground:=Ground.data },{ on:=8,ground:=Ground.data },{ on:=9,ground:=Ground.data }],guard:=none },{ dst:=some 11,op:=Op.assign (Operand.tmp 62),type:=67,pos:= "l12_command.go:115",after:=#[{ on:=10,ground:=Ground.data },{ on:=0,ground:=Ground.phase },{ on:=1,ground:=Ground.phase },{ on:=2,ground:=Ground.phase },{ on:=3,ground:=Ground.phase },{ on:=4,ground:=Ground.phase },{ on:=5,ground:=Ground.phase },{ on:=6,ground:=Ground.phase },{ on:=7,ground:=Ground.phase },{ on:=8,ground:=Ground.phase },{ on:=9,ground:=Ground.phase },{ on:=10,ground:=Ground.phase }],guard:=none }]
theorem keyS:Go.Maps.Keyed Tryz.prog 9:=Go.Maps.string_keyed Tryz.underlying9
theorem zeroI (w:World):(zeroValue 3).run Tryz.prog w=.ok (.int .i64 0) w:=by kernel_rfl
def mpD:DataW Unit:=([([112,117,116],1),([100,114,111,112],1),([97,108,108],1),([114,111,117,110,100],1),([119,104,111,108,101],1),([112,111,108,121,115],2),([99,104,97,105,110],1),([115,111,108,105,100],6),([102,105,114,115,116],6)]:List (List UInt8×Int)).foldl (λD p=>D.put (.string p.1) (.lit (.int .i64 p.2))) (.map [])
def lkl (s:List UInt8):Int:=
 if s=[112,117,116] then 1 else if s=[100,114,111,112] then 1 else if s=[97,108,108] then 1 else if s=[114,111,117,110,100] then 1 else if s=[119,104,111,108,101] then 1 else if s=[112,111,108,121,115] then 2 else if s=[99,104,97,105,110] then 1 else if s=[115,111,108,105,100] then 6 else if s=[102,105,114,115,116] then 6 else 0
theorem VE (s:List UInt8):mpD.atKey (.string s) (.lit (.int .i64 0))=.lit (.int .i64 (lkl s)):=by
 unfold lkl
 repeat' split
 all_goals first
  | (subst_vars;rfl)
  | skip
 simp only [mpD,List.foldl]
 repeat rw [Go.Maps.atKey_put_other (by simp [*])]
 rfl
theorem Gr {w w1:World} {g n:Nat} (h:w.ownsMap Tryz.prog 9 (plainElem Tryz.prog 3) g n mpD) (he:w1.heap[g]?=w.heap[g]?) (s:ByteArray) (hs:s.size<=maxLen):(Instr.lookup 67 (.map (some g)) (.string s) false).run Tryz.prog w1=.ok (.int .i64 (lkl s.data.toList)) w1:=by
 have h1:w1.ownsMap Tryz.prog 9 (plainElem Tryz.prog 3) g n mpD:=by
  obtain ⟨es,clock,hb,F⟩:=h;exact ⟨es,clock,he.trans hb,F⟩
 obtain ⟨c,hrun,hat,_⟩:=h1.lookup_int keyS Tryz.underlying67 Tryz.underlying3 (zeroI w1) (Go.WideMaps.keyOf_string_mk Tryz.underlying9 hs);rw [VE] at hat;have h3:=(Lit.int.inj (DataW.lit.inj hat)).2;rw [h3];exact hrun
theorem Ur (s:ByteArray):lkm s=lkl s.data.toList:=by
 unfold lkm lkl;rw [Lib.toList_data]
theorem S5 {P:Program} {ops:Array Oper} {rest:List Oper} {o:Oper} {a:Act} {Q:Exit->Act->World->Prop} {W:World} (k:Nat) (R:Value->Option (DataW Unit×List MemPlace)) (hgd:o.guard=none)
  (hrun:(execOp a.eval o).run P W=.ok (.value (.map (some W.heap.size))) (W.alloc (.map #[] 0)))
  (h:∀ w1,w1.ownsMap P k R W.heap.size 0 (.map [])->Below W.heap.size W w1->wpList P ops Q rest (a.put o.dst (.map (some W.heap.size))) w1):wpList P ops Q (o::rest) a W:=
 Kd.event_run hgd hrun (h _ (World.ownsMap_made _ _ _ _) (Ad (WG _ _) _))
theorem FG {a:Act} {w0 w:World} {ops:Array Oper} {rest:List Oper} {Q:Exit->Act->World->Prop} {p:String} {af:Array Edge} {b n:Nat} {D:DataW Unit} {s:List UInt8} {v:Int} (hm:a.eval (.tmp 61)=.map (some b)) (hown:w.ownsMap Tryz.prog 9 (plainElem Tryz.prog 3) b n D) (hB:Below w0.heap.size w0 w) (hb:w0.heap.size<=b) (hn:n<maxLen) (hs:s.length<=maxLen) (hv:(Lit.int .i64 v).wf=true)
  (hK:∀ w',w'.ownsMap Tryz.prog 9 (plainElem Tryz.prog 3) b (n+1) (D.put (.string s) (.lit (.int .i64 v)))->Below w0.heap.size w0 w'->wpList Tryz.prog ops Q rest a w') :
  wpList Tryz.prog ops Q (⟨none,.insert 67 (.tmp 61) (.const (.string ⟨s.toArray⟩)) (.const (.int .i64 v)),0,p,af,none⟩::rest) a w:=by
 refine wpList_plain rfl λK' hK'=>?_
 obtain ⟨w',hrun,r1,r2⟩:=hown.update keyS Tryz.underlying67 hn (key:=.string ⟨s.toArray⟩) (kl:=.string s) (val:=.int .i64 v) (d:=.lit (.int .i64 v)) (ps:=[]) (by
  have:=Go.WideMaps.keyOf_string_mk (P:=Tryz.prog) (s:=⟨s.toArray⟩) Tryz.underlying9 (by simpa [ByteArray.size] using hs)
  simpa using this) (plainElem_int Tryz.underlying3 hv)
 unfold Oper.wp;have e1:a.eval (.const (.string ⟨s.toArray⟩))=.string ⟨s.toArray⟩:=rfl;have e2:a.eval (.const (.int .i64 v))=.int .i64 v:=rfl;simp [execOp,hm,e1,e2,hrun,Result.andThen];exact hK' _ _ (hK w' r1 (hB.grown r2 hB.size (λk hk=>by cases hk;exact hb)))
section
variable {a:Act} {d nt:Nat} {w w' w0:World} {z:AV} {b:Nat} {G:Nat->Prop} {σ:St} {v:Value}
theorem RS.putv (R:RS b G w0 nt σ a w) (hG:∀ k,b<=k->G k) (hd:d<nt) (hf:free σ d=true) (hB:Below w.heap.size w w') (hz:∀ O,RO b G O σ (λj=>a.tmps.getD j undef) w->ovr b G O σ w w' (λj=>a.tmps.getD j undef) z v):RS b G w0 nt ((d,z)::σ) (a.put (some d) v) w':=by
 obtain ⟨O,H⟩:=R.ro;refine ⟨H.put hG R.base hB (hz O H) hf λi=>KD (by rw [R.size];exact hd),?_,R.defers,Ez R.below R.base hB,WA R.base hB.size⟩;show (a.tmps.setIfInBounds d v).size=nt;rw [Array.size_setIfInBounds];exact R.size
theorem RS.movev (R:RS b G w0 nt σ a w) (hG:∀ k,b<=k->G k) (hd:d<nt) (hf:free σ d=true) {i:Nat} {x:FV} (hx:look σ i=some (.v (.h x))):RS b G w0 nt ((d,.v (.h x))::σ) (a.put (some d) (a.tmps.getD i undef)) w:=
 R.putv hG hd hf (WG _ _) λO H=>H.val i _ hx
end
theorem Ut {nt:Nat} {σ:St} (hn:Nat.blt 62 nt=true) (h1:free σ 61=true) (h2:free σ 62=true) (h3:free σ 11=true):RgOk nt ops13 false σ ((11,.v (.h .mp))::(62,.v (.h .mp))::(61,.v (.h .mp))::σ):=by
 intro b G w0 Q id a w hG R hQ;have hn:=Nat.blt_eq.mp hn;have hsz:=R.size;refine wp_region_list ?_;show wpList Tryz.prog _ Q ops13 a w;refine S5 9 (plainElem Tryz.prog 3) rfl (by simp [execOp,run_makeMap,Result.andThen,go_sem]) λw1 m1 b1=>?_
 have hm:(a.put (some 61) (.map (some w.heap.size))).eval (.tmp 61)=.map (some w.heap.size):=by
  show (a.put (some 61) (.map (some w.heap.size))).tmps.getD 61 undef=_;rw [KD (by omega),if_pos rfl]
 have hmx:∀ n:Nat,n<100->n<maxLen:=λn h=>by unfold maxLen;omega
 refine FG (w0:=w) hm m1 b1 (Wn _) (hmx _ (by decide)) (by decide) (by decide) λw2 m2 b2=>?_;refine FG (w0:=w) hm m2 b2 (Wn _) (hmx _ (by decide)) (by decide) (by decide) λw3 m3 b3=>?_;refine FG (w0:=w) hm m3 b3 (Wn _) (hmx _ (by decide)) (by decide) (by decide) λw4 m4 b4=>?_;refine FG (w0:=w) hm m4 b4 (Wn _) (hmx _ (by decide)) (by decide) (by decide) λw5 m5 b5=>?_;refine FG (w0:=w) hm m5 b5 (Wn _) (hmx _ (by decide)) (by decide) (by decide) λw6 m6 b6=>?_;refine FG (w0:=w) hm m6 b6 (Wn _) (hmx _ (by decide)) (by decide) (by decide) λw7 m7 b7=>?_;refine FG (w0:=w) hm m7 b7 (Wn _) (hmx _ (by decide)) (by decide) (by decide) λw8 m8 b8=>?_;refine FG (w0:=w) hm m8 b8 (Wn _) (hmx _ (by decide)) (by decide) (by decide) λw9 m9 b9=>?_;refine FG (w0:=w) hm m9 b9 (Wn _) (hmx _ (by decide)) (by decide) (by decide) λwl ml bl=>?_
 have R1:RS b G w0 nt ((61,.v (.h .mp))::σ) (a.put (some 61) (.map (some w.heap.size))) wl:=R.putv hG.g (by omega) h1 bl λO H=>
  ⟨w.heap.size,rfl,⟨hG.g _ R.base,λj e=>absurd (H.old j _ e) (Nat.lt_irrefl _)⟩,ml.lt,λw1 he s hs=>by rw [Ur];exact Gr ml he s hs⟩
 have R2:=R1.movev hG.g (d:=62) (by omega) (by exact h2) (i:=61) rfl;have R3:=R2.movev hG.g (d:=11) (by omega) (by exact h3) (i:=62) rfl;refine Kd.event_run rfl rfl ?_;refine Kd.event_run rfl rfl ?_;exact hQ _ _ R3
theorem Vh {nt:Nat} {Q:Exit->St->Prop} {σ:St} {ops:Array Oper} (ho:ops.toList=ops13) (hn:Nat.blt 62 nt=true) (h1:free σ 61=true) (h2:free σ 62=true) (h3:free σ 11=true) (h:Q .normal ((11,.v (.h .mp))::(62,.v (.h .mp))::(61,.v (.h .mp))::σ)):awp nt (.region 13 ops false) Q σ:=
 ⟨_,ho▸Ut hn h1 h2 h3,h⟩
def MPg (nt:Nat) (Q:Exit->St->Prop) (σ:St):Prop:=awp nt (.region 13 ops13.toArray false) Q σ
theorem VF {nt:Nat} {Q:Exit->St->Prop} {σ:St} (hn:Nat.blt 62 nt=true) (h1:free σ 61=true) (h2:free σ 62=true) (h3:free σ 11=true) (h:Q .normal ((11,.v (.h .mp))::(62,.v (.h .mp))::(61,.v (.h .mp))::σ)):MPg nt Q σ:=Vh rfl hn h1 h2 h3 h
def Cp (f:Nat) (l:List Int) (ins res:List BV):Prop:=∀ (vs:List Value) (w:World) (g:Nat) (A:Option Addr) (cp:Nat),TabW w->w.cell? ⟨g,0,none⟩=some (.slice A l.length cp)->Kd.C (Kd.int .i64) w A l.length l->l.length<=cp->vs.length=ins.length->(∀ (k:Nat) (x:BV) (u:Value),ins[k]?=some x->vs[k]?=some u->∃ t,x=.s t/\u=.string t)->Calls Tryz.prog f (Value.pointer (some ⟨g,0,none⟩)::vs).toArray w λe w'=>Below w.heap.size w w'/\∃ v,e=.returned v/\crvs (λ_=>True) w.heap.size w' res v
theorem TP {f:Nat} {fn:Func} {c:Code} {l:List Int} {ins res:List BV} {P:Prop} (hf:Tryz.prog.funcs[f]?=some fn) (hb:fn.body=some c) (hname:(fn.name== "runtime.NumGoroutine")=false) (hn':Nat.ble (ins.length+1) fn.ntmps=true) (h:P->awp fn.ntmps c (retQ fn.results.toList res) ((0,.p (.f .i l))::parS 1 ins)) (e:P):Cp f l ins res:=λvs w g A cp ht hg hc hcap hs ha=>Wa hf hb hname hn' (h e) vs w g A cp ht hg hc hcap hs ha

end
section
theorem R7 {w:World} {base:Nat} {ok:Nat->Prop} {v:Value} {xs:List Int} (h:Kd.N (Kd.int .i64) 3 w base ok v xs):Kd.R (Kd.int .i64) 3 w base ok v xs:=by
 obtain ⟨h0,rows,hl,⟨h1,inner,ho,hr⟩,hf⟩:=h;refine ⟨h0,inner,by rw [<- hl];exact ho,⟨by rw [<- hl];exact hr.1,λj x hx=>?_⟩⟩;have hlt:j<rows.length:=by rw [hl];exact (List.getElem?_eq_some_iff.1 hx).1
 have hc:=WH hlt;have h2:=hr.2 j _ hc;have h3:=Kd.FK_now (hf j x _ hx hc);rw [show (Kd.raw (Kd.int .i64).sz).sz=(Kd.int .i64).sz from rfl] at h2;exact h2.1▸h3
def Ruled (w w':World) (B g:Nat) (l:List Int):Prop:=w.grownBy w' (some g)/\∃ A c,w'.heap[g]?=some (.cells #[.slice A l.length c] 32 (0,0))/\Kd.R (Kd.int .i64) 3 w' B (λ_=>True) (.slice A l.length c) l
theorem Ruled.same {w w':World} {B g:Nat} {A:Option Addr} {c:Nat} {l:List Int} (hg:w.heap[g]?=some (.cells #[.slice A l.length c] 32 (0,0))) (hr:Kd.R (Kd.int .i64) 3 w B (λ_=>True) (.slice A l.length c) l) (hb:Below w.heap.size w w'):Ruled w w' B g l:=
 ⟨⟨hb.os,hb.tape,hb.output,hb.size,λk hk _=>hb.block k hk⟩,A,c,Bl hg hb,Kd.R_below hr hb⟩
theorem DY.yes (g:Nat) (A:Option Addr) (n c:Nat) (x:Value) (w:World) (h:w.heap[g]?=some (.cells #[x] 32 (0,0))) :
  Calls Tryz.prog 39 #[.pointer (some ⟨g,0,none⟩),.slice A n c,.bool true] w λe w'=>e=.returned (.string ⟨#[111,107]⟩)/\w'=w.setCell ⟨g,0,none⟩ (.slice A n c):=by
 have c0:_=some _:=Ak h 0;have f0:=AD h 0;clear h;go_enter Tryz.func39,Tryz.ntmps39;go_wp2;go_ret;exact ⟨rfl,rfl⟩
theorem DY.no (g:Nat) (A:Option Addr) (n c:Nat) (w:World) :
  Calls Tryz.prog 39 #[.pointer (some ⟨g,0,none⟩),.slice A n c,.bool false] w λe w'=>e=.returned (.string ⟨#[110,111]⟩)/\w'=w:=by
 go_enter Tryz.func39,Tryz.ntmps39;go_wp2;go_ret;exact ⟨rfl,rfl⟩
theorem Ruled.put {w w1:World} {B g:Nat} {A:Option Addr} {c:Nat} {l:List Int} {x:Value} (hg:w.heap[g]?=some (.cells #[x] 32 (0,0))) (hb:Below w.heap.size w w1) (hr:Kd.R (Kd.int .i64) 3 w1 w.heap.size (λ_=>True) (.slice A l.length c) l) (hB:B<=w.heap.size):Ruled w (w1.setCell ⟨g,0,none⟩ (.slice A l.length c)) B g l:=
 ⟨⟨hb.os,hb.tape,hb.output,by simp [World.setCell];exact hb.size,λk hk hne=>(Below.heap_setCell _ _ _ k (λe=>hne (by rw [e]))).trans (hb.block k hk)⟩,A,c,Ce (Bl hg hb) 0 _ rfl,Kd.R_lower (Kd.R_set hr (Bl hg hb) (by decide) 0 _) hB⟩
theorem AO.go_sort_true (k:Nat) (B g:Nat) (A0:Option Addr) (c0:Nat) (l0 l1:List Int) (w:World) (hg:w.heap[g]?=some (.cells #[.slice A0 l0.length c0] 32 (0,0))) (hr0:Kd.R (Kd.int .i64) 3 w B (λ_=>True) (.slice A0 l0.length c0) l0) (hB:B<=g) (htab_:TabW w) (h:Cy.f k l0=some (l1,true)) :
  Calls Tryz.prog 20 #[.pointer (some ⟨g,0,none⟩),.string ⟨#[115,111,114,116]⟩] w λe w'=>e=.returned (.string ⟨#[111,107]⟩)/\Ruled w w' B g l1:=by
 have HG:=Aa.mk hg;have HR:=Aa.mk hr0;have HB:=Aa.mk (WG w.heap.size w);have HBB:=Aa.mk (show B<=w.heap.size from WA hB (Nat.le_of_lt (Dp hg)));have HTAB_:=Aa.mk htab_;have cg:_=some _:=Ak hg 0;clear hg hr0 hB htab_;have A1:=Aa.mk h;clear h;go_enter Tryz.func20,Tryz.ntmps20
 go_wp2_with (first
  | (go_at_call 51;refine (Cy.calls k _ _ l0 l1 true _ (Kd.R_reads' HR.out).2.2 (Kd.R_reads' HR.out).2.1 A1.out).mono ?_;rintro e w1 ⟨v1,rfl,hr1,hb1⟩;obtain ⟨A7,c7,rfl⟩:=Kd.R_slice hr1;have HQ:=Aa.mk hr1;have n0_:=Aa.mk (Bt (by repeat (first | (with_reducible first | exact HB.out | apply Ad | apply Ac | apply Ae) | exact HB.out)) hb1);clear HB hr1 hb1;have HB:=n0_;clear n0_)
  | (go_at_call 39;refine (DY.yes g _ _ _ _ _ (Bl HG.out (by repeat (first | (with_reducible first | exact HB.out | apply Ad | apply Ac | apply Ae) | exact HB.out)))).mono ?_;rintro e w3 ⟨rfl,rfl⟩))
 go_ret;exact ⟨rfl,Ruled.put HG.out HB.out HQ.out HBB.out⟩
theorem AO.go_sort_false (k:Nat) (B g:Nat) (A0:Option Addr) (c0:Nat) (l0 l1:List Int) (w:World) (hg:w.heap[g]?=some (.cells #[.slice A0 l0.length c0] 32 (0,0))) (hr0:Kd.R (Kd.int .i64) 3 w B (λ_=>True) (.slice A0 l0.length c0) l0) (hB:B<=g) (htab_:TabW w) (h:Cy.f k l0=some (l1,false)) :
  Calls Tryz.prog 20 #[.pointer (some ⟨g,0,none⟩),.string ⟨#[115,111,114,116]⟩] w λe w'=>e=.returned (.string ⟨#[110,111]⟩)/\Ruled w w' B g l0:=by
 have HG:=Aa.mk hg;have HR:=Aa.mk hr0;have HB:=Aa.mk (WG w.heap.size w);have HBB:=Aa.mk (show B<=w.heap.size from WA hB (Nat.le_of_lt (Dp hg)));have HTAB_:=Aa.mk htab_;have cg:_=some _:=Ak hg 0;clear hg hr0 hB htab_;have A1:=Aa.mk h;clear h;go_enter Tryz.func20,Tryz.ntmps20
 go_wp2_with (first
  | (go_at_call 51;refine (Cy.calls k _ _ l0 l1 false _ (Kd.R_reads' HR.out).2.2 (Kd.R_reads' HR.out).2.1 A1.out).mono ?_;rintro e w1 ⟨v1,rfl,hr1,hb1⟩;obtain ⟨A7,c7,rfl⟩:=Kd.R_slice hr1;have HQ:=Aa.mk hr1;have n0_:=Aa.mk (Bt (by repeat (first | (with_reducible first | exact HB.out | apply Ad | apply Ac | apply Ae) | exact HB.out)) hb1);clear HB hr1 hb1;have HB:=n0_;clear n0_)
  | (go_at_call 39;refine (DY.no g _ _ _ _).mono ?_;rintro e w3 ⟨rfl,rfl⟩))
 go_ret;exact ⟨rfl,Ruled.same HG.out HR.out HB.out⟩
theorem AO.go_back_true (k:Nat) (B g:Nat) (A0:Option Addr) (c0:Nat) (l0 l1:List Int) (w:World) (hg:w.heap[g]?=some (.cells #[.slice A0 l0.length c0] 32 (0,0))) (hr0:Kd.R (Kd.int .i64) 3 w B (λ_=>True) (.slice A0 l0.length c0) l0) (hB:B<=g) (htab_:TabW w) (h:CV.f k l0=some (l1,true)) :
  Calls Tryz.prog 20 #[.pointer (some ⟨g,0,none⟩),.string ⟨#[98,97,99,107]⟩] w λe w'=>e=.returned (.string ⟨#[111,107]⟩)/\Ruled w w' B g l1:=by
 have HG:=Aa.mk hg;have HR:=Aa.mk hr0;have HB:=Aa.mk (WG w.heap.size w);have HBB:=Aa.mk (show B<=w.heap.size from WA hB (Nat.le_of_lt (Dp hg)));have HTAB_:=Aa.mk htab_;have cg:_=some _:=Ak hg 0;clear hg hr0 hB htab_;have A1:=Aa.mk h;clear h;go_enter Tryz.func20,Tryz.ntmps20
 go_wp2_with (first
  | (go_at_call 52;refine (CV.calls k _ _ l0 l1 true _ (Kd.R_reads' HR.out).2.2 (Kd.R_reads' HR.out).2.1 A1.out).mono ?_;rintro e w1 ⟨v1,rfl,hr1,hb1⟩;obtain ⟨A7,c7,rfl⟩:=Kd.R_slice hr1;have HQ:=Aa.mk hr1;have n0_:=Aa.mk (Bt (by repeat (first | (with_reducible first | exact HB.out | apply Ad | apply Ac | apply Ae) | exact HB.out)) hb1);clear HB hr1 hb1;have HB:=n0_;clear n0_)
  | (go_at_call 39;refine (DY.yes g _ _ _ _ _ (Bl HG.out (by repeat (first | (with_reducible first | exact HB.out | apply Ad | apply Ac | apply Ae) | exact HB.out)))).mono ?_;rintro e w3 ⟨rfl,rfl⟩))
 go_ret;exact ⟨rfl,Ruled.put HG.out HB.out HQ.out HBB.out⟩
theorem AO.go_back_false (k:Nat) (B g:Nat) (A0:Option Addr) (c0:Nat) (l0 l1:List Int) (w:World) (hg:w.heap[g]?=some (.cells #[.slice A0 l0.length c0] 32 (0,0))) (hr0:Kd.R (Kd.int .i64) 3 w B (λ_=>True) (.slice A0 l0.length c0) l0) (hB:B<=g) (htab_:TabW w) (h:CV.f k l0=some (l1,false)) :
  Calls Tryz.prog 20 #[.pointer (some ⟨g,0,none⟩),.string ⟨#[98,97,99,107]⟩] w λe w'=>e=.returned (.string ⟨#[110,111]⟩)/\Ruled w w' B g l0:=by
 have HG:=Aa.mk hg;have HR:=Aa.mk hr0;have HB:=Aa.mk (WG w.heap.size w);have HBB:=Aa.mk (show B<=w.heap.size from WA hB (Nat.le_of_lt (Dp hg)));have HTAB_:=Aa.mk htab_;have cg:_=some _:=Ak hg 0;clear hg hr0 hB htab_;have A1:=Aa.mk h;clear h;go_enter Tryz.func20,Tryz.ntmps20
 go_wp2_with (first
  | (go_at_call 52;refine (CV.calls k _ _ l0 l1 false _ (Kd.R_reads' HR.out).2.2 (Kd.R_reads' HR.out).2.1 A1.out).mono ?_;rintro e w1 ⟨v1,rfl,hr1,hb1⟩;obtain ⟨A7,c7,rfl⟩:=Kd.R_slice hr1;have HQ:=Aa.mk hr1;have n0_:=Aa.mk (Bt (by repeat (first | (with_reducible first | exact HB.out | apply Ad | apply Ac | apply Ae) | exact HB.out)) hb1);clear HB hr1 hb1;have HB:=n0_;clear n0_)
  | (go_at_call 39;refine (DY.no g _ _ _ _).mono ?_;rintro e w3 ⟨rfl,rfl⟩))
 go_ret;exact ⟨rfl,Ruled.same HG.out HR.out HB.out⟩
theorem Fl {P:Program} {ops:Array Oper} {rest:List Oper} {o:Oper} {a:Act} {Q:Exit->Act->World->Prop} {W:World} (k:TypeId) (R:Value->Option (DataW Unit×List MemPlace)) (hgd:o.guard=none) {N:Tmp} (_hd:o.dst=some N)
  (hrun:(execOp a.eval o).run P W=.ok (.value (.map (some W.heap.size))) (W.alloc (.map #[] 0)))
  (h:∀ g,g=W.heap.size->∀ w1,w1.ownsMap P k R g 0 (.map [])->Below W.heap.size W w1->wpList P ops Q rest (a.put o.dst (.map (some g))) w1):wpList P ops Q (o::rest) a W:=
 Kd.event_run hgd hrun (h _ rfl _ (World.ownsMap_made _ _ _ _) (Ad (WG _ _) _))
theorem E0 {P:Program} (w:World) {ops:Array Oper} {rest:List Oper} {o:Oper} {a:Act} {Q:Exit->Act->World->Prop}
  (hg:o.guard=none) (m x v:Operand) (t:TypeId) (hop:o.op=Op.insert t m x v)
  (k e:TypeId) (K:Go.Maps.Keyed P k) (ht:P.underlying t=some (.map k e)) (R:Value->Option (DataW Unit×List MemPlace)) (b n:Nat) (D:DataW Unit)
  (hm:a.eval m=.map (some b)) (hown:w.ownsMap P k R b n D) (hn:n<maxLen) (key val:Value) (kl:Lit) (hx:a.eval x=key) (hv:a.eval v=val) (hkey:keyOf P k key=some kl)
  (d:DataW Unit) (ps:List MemPlace) (hval:R val=some (d,ps))
  (hK:∀ w',w'.ownsMap P k R b (n+1) (D.put kl d)->w.grownBy w' (some b)->wpList P ops Q rest (a.put o.dst undef) w') :
  wpList P ops Q (o::rest) a w:=by
 refine wpList_plain hg λK' hK'=>?_;obtain ⟨w',hrun,r1,r2⟩:=hown.update K ht hn hkey hval;unfold Oper.wp;simp [execOp,hop,hm,hx,hv,hrun,Result.andThen];exact hK' _ _ (hK w' r1 r2)
theorem Al.calls (k:Nat) (a0:ByteArray) (r1:List Int) (r2:Bool) (w:World) (h:Al.f k a0=some (r1,r2)) (ht:TabW w) :
  Calls Tryz.prog 38 #[.string a0] w λe w'=>∃ v0_:Value,e=.returned (.tuple #[v0_,.bool r2])/\Kd.R (Kd.int .i64) 3 w' w.heap.size (λ_=>True) v0_ r1/\Below w.heap.size w w':=by
 refine ((Al.ct h).go [.string a0] w ht (λ_=>True) rfl λk x u h1 h2=>?_).mono λe w' ⟨h1,v,h2,h3⟩=>?_
 ·rcases k with _ | k
  ·cases h1;cases h2;rfl
  ·simp at h1
 ·obtain ⟨u1,u2,rfl,h4,rfl⟩:=OW h3;exact ⟨u1,h2,Kd.R_mono (R7 h4) λ_ _=>trivial,h1⟩
theorem grow_none' (w:World):Go.Sort.grow w #[]=w:=by simp [Go.Sort.grow]
theorem K3 {k:Nat} {l r:List Int} (h:Aj.f k l=some r):r=l/\0<r.length/\r.length<1000:=by
 unfold Aj.f at h;split at h
 ·split at h
  ·obtain rfl:=AS h;rw [Ws];exact ⟨rfl,by assumption,by assumption⟩
  ·cases h
 ·cases h
theorem KQ.callsR (g c i:Nat) (cs ls:List Int) (w0 w2:World) (hR:Kd.R (Kd.int .i64) 3 w2 w0.heap.size (λ_=>True) (.slice (some ⟨g,0,none⟩) cs.length c) cs) (hi:i<cs.length) (hls:ls=cs.take i++cs.drop (i+1)) (hb:Below w0.heap.size w0 w2) :
  Calls Tryz.prog 42 #[.slice (some ⟨g,0,none⟩) cs.length c,.int .i64 (i:Int),.int .i64 ((i+1:Nat):Int)] w2 λe w'=>e=.returned (.slice (some ⟨g,0,none⟩) ls.length c)/\Kd.R (Kd.int .i64) 3 w' w0.heap.size (λ_=>True) (.slice (some ⟨g,0,none⟩) ls.length c) ls/\Below w0.heap.size w0 w':=by
 rcases (Kd.own_of_R hR).2 with ⟨q0,_⟩ | ⟨g1,cap1,cur,q1,q2,q3,q4,q5,q6,q7⟩
 ·cases q0
 cases q1;have hll:ls.length=cs.length-1:=by rw [hls];simp;omega
 have hH:Go.Sort.Holds (Value.int .i64) w2 g 0 cs.toArray:=holds_of_blockI q3 (by rw [Nat.mul_one] at q7;exact q7);refine (Go.Proofs.YtlgojeodceiglaaGreatDoor.Shelf.Tryz.slices_Delete_int g 0 c i (i+1) cs w2 hH q4 (by unfold maxLen at q5;exact q5) (by omega) (by omega)).mono ?_;rintro e w3 ⟨rfl,n,rfl⟩;have e1:cs.length-(i+1-i)=ls.length:=by omega
 obtain ⟨ts,hts⟩:∃ ts,cs.take i++cs.drop (i+1)++List.replicate (i+1-i) (0:Int)=ts:=⟨_,rfl⟩
 have htl:ts.length=cs.length:=by rw [<- hts];simp;omega
 rw [hts,e1];have HO:Kd.R (Kd.int .i64) 3 (Go.Sort.grow (Go.Sort.putRow (Value.int .i64) (Go.Sort.ahead w2 n) g 0 ts.toArray) #[]) w0.heap.size (λ_=>True) (.slice (some ⟨g,0,none⟩) cs.length c) ts:=Kd.R_of_own (by rw [htl];exact ownsRow_sortedI htl q2 q3 q4 q5 q6) (λ_ _=>trivial);have HB3:Below w0.heap.size w0 (Go.Sort.grow (Go.Sort.putRow (Value.int .i64) (Go.Sort.ahead w2 n) g 0 ts.toArray) #[]):=Below.grown hb (grownBy_sortedI _) hb.size (λk hk=>by cases hk;exact q2);rw [grow_none'] at HO HB3
 have e2:ts.take ls.length=ls:=by
  rw [<- hts,<- hls];exact List.take_left
 have h4:=Kd.R_take (m:=ls.length) HO (by omega);rw [e2] at h4;exact ⟨rfl,h4,HB3⟩
theorem Aq.go_set_true (k:Nat) (B g:Nat) (A0:Option Addr) (c0:Nat) (l0 l1:List Int) (rest:ByteArray) (q:List Int) (w:World) (hg:w.heap[g]?=some (.cells #[.slice A0 l0.length c0] 32 (0,0))) (hr0:Kd.R (Kd.int .i64) 3 w B (λ_=>True) (.slice A0 l0.length c0) l0) (hB:B<=g) (htab_:TabW w) (hq:Al.f k rest=some (q,true)) (hp:0<q.length) (h:Am.f k q=some true) :
  Calls Tryz.prog 19 #[.pointer (some ⟨g,0,none⟩),.string ⟨#[115,101,116]⟩,.string rest] w λe w'=>e=.returned (.string ⟨#[111,107]⟩)/\Ruled w w' B g q:=by
 have HG:=Aa.mk hg;have HR:=Aa.mk hr0;have HB:=Aa.mk (WG w.heap.size w);have HBB:=Aa.mk (show B<=w.heap.size from WA hB (Nat.le_of_lt (Dp hg)));have HTAB_:=Aa.mk htab_;have cg:_=some _:=Ak hg 0;clear hg hr0 hB htab_;have hmm:=@run_makeMap Tryz.prog;have A1:=Aa.mk hq;have C2:=Aa.mk hp;clear hq hp;have A2:=Aa.mk h;clear h;go_enter Tryz.func19,Tryz.ntmps19
 go_wp2_with (first
  | ((with_reducible refine Er (N:=61) rfl ?_);refine Fl 9 (plainElem Tryz.prog 3) ?hg (N:=61) ?hd ?hr ?_;(case hd=>rfl);(case hg=>rfl);(case hr=>first | (go_simp;done) | (go_simp;rfl));intro gm hgm wm hm hb;have GM:=Aa.mk (show w.heap.size<=gm by rw [hgm];exact (CO (by repeat (first | (with_reducible first | exact HB.out | apply Ad | apply Ac | apply Ae) | exact HB.out))));have n0_:=Aa.mk (Bt (by repeat (first | (with_reducible first | exact HB.out | apply Ad | apply Ac | apply Ae) | exact HB.out)) hb);have HM:=Aa.mk hm;clear hgm hm hb HB;have HB:=n0_;clear n0_) | (refine E0 _ rfl _ _ _ 67 rfl 9 3 keyS Tryz.underlying67 _ gm _ _ rfl HM.out (by unfold maxLen;omega) _ _ _ rfl rfl (Go.WideMaps.keyOf_string_mk Tryz.underlying9 (by decide)) _ [] (plainElem_int Tryz.underlying3 (by decide)) ?_;intro wm hm1 hg1;have n0_:=Aa.mk (Du HB.out _ HB.out.size hg1 (λk hk=>by obtain rfl:=AS hk;exact GM.out));have n1_:=Aa.mk hm1;clear HB HM hm1 hg1;have HB:=n0_;have HM:=n1_;clear n0_ n1_)
  | (go_at_call 38;refine (Al.calls k rest q true _ A1.out (HTAB_.out.below (by repeat (first | (with_reducible first | exact HB.out | apply Ad | apply Ac | apply Ae) | exact HB.out)))).mono ?_;rintro e w1 ⟨v1,rfl,hr1,hb1⟩;obtain ⟨A7,c7,rfl⟩:=Kd.R_slice hr1;have HQ:=Aa.mk (Kd.R_lower hr1 (CO (by repeat (first | (with_reducible first | exact HB.out | apply Ad | apply Ac | apply Ae) | exact HB.out))));have n0_:=Aa.mk (Bt (by repeat (first | (with_reducible first | exact HB.out | apply Ad | apply Ac | apply Ae) | exact HB.out)) hb1);clear HB hr1 hb1;have HB:=n0_;clear n0_;obtain ⟨ad7,e7,hx7⟩:=Kd.at_int (Kd.R_reads' HQ.out).2.2 0 (by omega) (by have:=C2.out;omega);cases e7;rw [show ad7.add (0:Int).toNat=ad7 by simp [Addr.add]] at hx7;have hl7:=World.block_lt_of_cell? _ _ hx7;have p7:(0:Int)<(q.length:Int):=(by have:=C2.out;omega);have cg1:_=some _:=Ak (Bl HG.out HB.out) 0)
  | (go_at_call 40;refine (Am.calls k _ _ q true _ (Kd.R_reads' HQ.out).2.2 (Kd.R_reads' HQ.out).2.1 A2.out).mono ?_;rintro e w1_ ⟨rfl,⟨⟨n_,rfl⟩⟩⟩;have n0_:=Aa.mk (Ac (by repeat (first | (with_reducible first | exact HB.out | apply Ad | apply Ac | apply Ae) | exact HB.out)) n_);clear HB;have HB:=n0_;clear n0_;have n1_:=Aa.mk (Kd.R_drewN HQ.out n_);clear HQ;have HQ:=n1_;clear n1_)
  | (go_at_call 39;refine (DY.yes g _ _ _ _ _ (Bl HG.out (by repeat (first | (with_reducible first | exact HB.out | apply Ad | apply Ac | apply Ae) | exact HB.out)))).mono ?_;rintro e w3 ⟨rfl,rfl⟩))
 go_ret;exact ⟨rfl,Ruled.put HG.out HB.out HQ.out HBB.out⟩
theorem Aq.go_set_false (k:Nat) (B g:Nat) (A0:Option Addr) (c0:Nat) (l0 l1:List Int) (rest:ByteArray) (q:List Int) (w:World) (hg:w.heap[g]?=some (.cells #[.slice A0 l0.length c0] 32 (0,0))) (hr0:Kd.R (Kd.int .i64) 3 w B (λ_=>True) (.slice A0 l0.length c0) l0) (hB:B<=g) (htab_:TabW w) (hq:Al.f k rest=some (q,true)) (hp:0<q.length) (h:Am.f k q=some false) :
  Calls Tryz.prog 19 #[.pointer (some ⟨g,0,none⟩),.string ⟨#[115,101,116]⟩,.string rest] w λe w'=>e=.returned (.string ⟨#[110,111]⟩)/\Ruled w w' B g l0:=by
 have HG:=Aa.mk hg;have HR:=Aa.mk hr0;have HB:=Aa.mk (WG w.heap.size w);have HBB:=Aa.mk (show B<=w.heap.size from WA hB (Nat.le_of_lt (Dp hg)));have HTAB_:=Aa.mk htab_;have cg:_=some _:=Ak hg 0;clear hg hr0 hB htab_;have hmm:=@run_makeMap Tryz.prog;have A1:=Aa.mk hq;have C2:=Aa.mk hp;clear hq hp;have A2:=Aa.mk h;clear h;go_enter Tryz.func19,Tryz.ntmps19
 go_wp2_with (first
  | ((with_reducible refine Er (N:=61) rfl ?_);refine Fl 9 (plainElem Tryz.prog 3) ?hg (N:=61) ?hd ?hr ?_;(case hd=>rfl);(case hg=>rfl);(case hr=>first | (go_simp;done) | (go_simp;rfl));intro gm hgm wm hm hb;have GM:=Aa.mk (show w.heap.size<=gm by rw [hgm];exact (CO (by repeat (first | (with_reducible first | exact HB.out | apply Ad | apply Ac | apply Ae) | exact HB.out))));have n0_:=Aa.mk (Bt (by repeat (first | (with_reducible first | exact HB.out | apply Ad | apply Ac | apply Ae) | exact HB.out)) hb);have HM:=Aa.mk hm;clear hgm hm hb HB;have HB:=n0_;clear n0_) | (refine E0 _ rfl _ _ _ 67 rfl 9 3 keyS Tryz.underlying67 _ gm _ _ rfl HM.out (by unfold maxLen;omega) _ _ _ rfl rfl (Go.WideMaps.keyOf_string_mk Tryz.underlying9 (by decide)) _ [] (plainElem_int Tryz.underlying3 (by decide)) ?_;intro wm hm1 hg1;have n0_:=Aa.mk (Du HB.out _ HB.out.size hg1 (λk hk=>by obtain rfl:=AS hk;exact GM.out));have n1_:=Aa.mk hm1;clear HB HM hm1 hg1;have HB:=n0_;have HM:=n1_;clear n0_ n1_)
  | (go_at_call 38;refine (Al.calls k rest q true _ A1.out (HTAB_.out.below (by repeat (first | (with_reducible first | exact HB.out | apply Ad | apply Ac | apply Ae) | exact HB.out)))).mono ?_;rintro e w1 ⟨v1,rfl,hr1,hb1⟩;obtain ⟨A7,c7,rfl⟩:=Kd.R_slice hr1;have HQ:=Aa.mk (Kd.R_lower hr1 (CO (by repeat (first | (with_reducible first | exact HB.out | apply Ad | apply Ac | apply Ae) | exact HB.out))));have n0_:=Aa.mk (Bt (by repeat (first | (with_reducible first | exact HB.out | apply Ad | apply Ac | apply Ae) | exact HB.out)) hb1);clear HB hr1 hb1;have HB:=n0_;clear n0_;obtain ⟨ad7,e7,hx7⟩:=Kd.at_int (Kd.R_reads' HQ.out).2.2 0 (by omega) (by have:=C2.out;omega);cases e7;rw [show ad7.add (0:Int).toNat=ad7 by simp [Addr.add]] at hx7;have hl7:=World.block_lt_of_cell? _ _ hx7;have p7:(0:Int)<(q.length:Int):=(by have:=C2.out;omega);have cg1:_=some _:=Ak (Bl HG.out HB.out) 0)
  | (go_at_call 40;refine (Am.calls k _ _ q false _ (Kd.R_reads' HQ.out).2.2 (Kd.R_reads' HQ.out).2.1 A2.out).mono ?_;rintro e w1_ ⟨rfl,⟨⟨n_,rfl⟩⟩⟩;have n0_:=Aa.mk (Ac (by repeat (first | (with_reducible first | exact HB.out | apply Ad | apply Ac | apply Ae) | exact HB.out)) n_);clear HB;have HB:=n0_;clear n0_;have n1_:=Aa.mk (Kd.R_drewN HQ.out n_);clear HQ;have HQ:=n1_;clear n1_)
  | (go_at_call 39;refine (DY.no g _ _ _ _).mono ?_;rintro e w3 ⟨rfl,rfl⟩))
 go_ret;exact ⟨rfl,Ruled.same HG.out HR.out HB.out⟩
theorem Aq.go_put_true (k:Nat) (B g:Nat) (A0:Option Addr) (c0:Nat) (l0 l1:List Int) (rest:ByteArray) (q:List Int) (w:World) (hg:w.heap[g]?=some (.cells #[.slice A0 l0.length c0] 32 (0,0))) (hr0:Kd.R (Kd.int .i64) 3 w B (λ_=>True) (.slice A0 l0.length c0) l0) (hB:B<=g) (htab_:TabW w) (hq:Al.f k rest=some (q,true)) (hp:0<q.length) (h1:q.length=1) (n1:Int) (hn:rd q 0=n1) (cs:List Int) (hc:Aj.f k l0=some cs) (hcl:cs.length<100000) (ln:List Int) (hl:ln=cs++[n1]) (h:Am.f k ln=some true) :
  Calls Tryz.prog 19 #[.pointer (some ⟨g,0,none⟩),.string ⟨#[112,117,116]⟩,.string rest] w λe w'=>e=.returned (.string ⟨#[111,107]⟩)/\Ruled w w' B g ln:=by
 have HG:=Aa.mk hg;have HR:=Aa.mk hr0;have HB:=Aa.mk (WG w.heap.size w);have HBB:=Aa.mk (show B<=w.heap.size from WA hB (Nat.le_of_lt (Dp hg)));have HTAB_:=Aa.mk htab_;have cg:_=some _:=Ak hg 0;clear hg hr0 hB htab_;have hmm:=@run_makeMap Tryz.prog;have A1:=Aa.mk hq;have C2:=Aa.mk hp;clear hq hp;have A2:=Aa.mk h;have A3:=Aa.mk hc;have HN:=Aa.mk hn;have HL:=Aa.mk hl;have HCL:=Aa.mk hcl;have e1:(q.length:Int)=1:=by omega
 clear h hc hn hl hcl h1;go_enter Tryz.func19,Tryz.ntmps19
 go_upto_region 14 with (first
  | ((with_reducible refine Er (N:=61) rfl ?_);refine Fl 9 (plainElem Tryz.prog 3) ?hg (N:=61) ?hd ?hr ?_;(case hd=>rfl);(case hg=>rfl);(case hr=>first | (go_simp;done) | (go_simp;rfl));intro gm hgm wm hm hb;have GM:=Aa.mk (show w.heap.size<=gm by rw [hgm];exact (CO (by repeat (first | (with_reducible first | exact HB.out | apply Ad | apply Ac | apply Ae) | exact HB.out))));have n0_:=Aa.mk (Bt (by repeat (first | (with_reducible first | exact HB.out | apply Ad | apply Ac | apply Ae) | exact HB.out)) hb);have HM:=Aa.mk hm;clear hgm hm hb HB;have HB:=n0_;clear n0_) | (refine E0 _ rfl _ _ _ 67 rfl 9 3 keyS Tryz.underlying67 _ gm _ _ rfl HM.out (by unfold maxLen;omega) _ _ _ rfl rfl (Go.WideMaps.keyOf_string_mk Tryz.underlying9 (by decide)) _ [] (plainElem_int Tryz.underlying3 (by decide)) ?_;intro wm hm1 hg1;have n0_:=Aa.mk (Du HB.out _ HB.out.size hg1 (λk hk=>by obtain rfl:=AS hk;exact GM.out));have n1_:=Aa.mk hm1;clear HB HM hm1 hg1;have HB:=n0_;have HM:=n1_;clear n0_ n1_))
 have HMP:=Aa.mk (show World.ownsMap _ Tryz.prog 9 (plainElem Tryz.prog 3) gm 9 mpD from HM.out);clear HM;have hk1:(Instr.lookup 67 (.map (some gm)) (.string ⟨#[112,117,116]⟩) false).run Tryz.prog wm=.ok (.int .i64 1) wm:=Gr HMP.out rfl _ (by decide)
 go_wp2_with (first
  | (go_at_call 38;refine (Al.calls k rest q true _ A1.out (HTAB_.out.below (by repeat (first | (with_reducible first | exact HB.out | apply Ad | apply Ac | apply Ae) | exact HB.out)))).mono ?_;rintro e w1 ⟨v1,rfl,hr1,hb1⟩;obtain ⟨A7,c7,rfl⟩:=Kd.R_slice hr1;have HQ:=Aa.mk (Kd.R_lower hr1 (CO (by repeat (first | (with_reducible first | exact HB.out | apply Ad | apply Ac | apply Ae) | exact HB.out))));have n0_:=Aa.mk (Bt (by repeat (first | (with_reducible first | exact HB.out | apply Ad | apply Ac | apply Ae) | exact HB.out)) hb1);have hk2:(Instr.lookup 67 (.map (some gm)) (.string ⟨#[112,117,116]⟩) false).run Tryz.prog w1=.ok (.int .i64 1) w1:=Gr HMP.out (hb1.block gm HMP.out.lt) _ (by decide);clear HB hr1 hb1;have HB:=n0_;clear n0_;obtain ⟨ad7,e7,hx7⟩:=Kd.at_int (Kd.R_reads' HQ.out).2.2 0 (by omega) (by have:=C2.out;omega);cases e7;rw [HN.out] at hx7;rw [show ad7.add (0:Int).toNat=ad7 by simp [Addr.add]] at hx7;have hl7:=World.block_lt_of_cell? _ _ hx7;have p7:(0:Int)<(q.length:Int):=(by have:=C2.out;omega);have cg1:_=some _:=Ak (Bl HG.out HB.out) 0)
  | (go_at_call 41;refine (Aj.calls k _ _ l0 cs _ (Kd.C_below (Kd.R_reads' HR.out).2.2 HB.out) (Kd.R_reads' HR.out).2.1 A3.out).mono ?_;rintro e w2 ⟨v2,rfl,hr2,hb2⟩;obtain ⟨A8,c8,rfl⟩:=Kd.R_slice hr2;have HC8:=Aa.mk (Kd.R_lower hr2 (CO HB.out));have n0_:=Aa.mk (Bt HB.out hb2);clear HB hr2 hb2;have HB:=n0_;clear n0_)
  | ((with_reducible refine DD (b:=.append) (xs:=#[.tmp 106,.tmp 108]) rfl ?_);at_builtin;refine Kd.R_append (Kd.int .i64) (w0:=w) w.heap.size rfl (.tmp 106) (.tmp 108) 32 3 (.int .i64 0) 8 rfl Tryz.underlying32 info3 rfl (by decide) (by omega) (.slice A8 cs.length c8) cs n1 [.int .i64 n1] (λ_=>True) (λ_=>False) rfl rfl ?aP (λ_ hk=>hk.elim) ?aF ?aO ?aB ?aS ?aL ?_;(case aP=>exact rfl);(case aB=>exact (by repeat (first | (with_reducible first | exact HB.out | apply Ad | apply Ac | apply Ae) | exact HB.out)));(case aF=>exact (λk hk=>trivial));(case aO=>exact (by (with_reducible repeat (first | apply Kd.R_alloc | apply Kd.R_drewN | apply Kd.R_drew));exact HC8.out));(case aS=>exact HB.out.size);(case aL=>have:=HCL.out;omega);intro v1 w3 ho hb hg hat;rw [<- HL.out] at ho;obtain ⟨A9,c9,rfl⟩:=Kd.R_slice ho;have HO:=Aa.mk ho;have n0_:=Aa.mk hb;clear HB ho hb hg hat;have HB:=n0_;clear n0_)
  | (go_at_call 40;refine (Am.calls k _ _ ln true _ (Kd.R_reads' HO.out).2.2 (Kd.R_reads' HO.out).2.1 A2.out).mono ?_;rintro e w1_ ⟨rfl,⟨⟨n_,rfl⟩⟩⟩;have n0_:=Aa.mk (Ac (by repeat (first | (with_reducible first | exact HB.out | apply Ad | apply Ac | apply Ae) | exact HB.out)) n_);clear HB;have HB:=n0_;clear n0_;have n1_:=Aa.mk (Kd.R_drewN HO.out n_);clear HO;have HO:=n1_;clear n1_)
  | (go_at_call 39;refine (DY.yes g _ _ _ _ _ (Bl HG.out (by repeat (first | (with_reducible first | exact HB.out | apply Ad | apply Ac | apply Ae) | exact HB.out)))).mono ?_;rintro e w3 ⟨rfl,rfl⟩))
 go_ret;exact ⟨rfl,Ruled.put HG.out HB.out HO.out HBB.out⟩
theorem Aq.go_put_false (k:Nat) (B g:Nat) (A0:Option Addr) (c0:Nat) (l0 l1:List Int) (rest:ByteArray) (q:List Int) (w:World) (hg:w.heap[g]?=some (.cells #[.slice A0 l0.length c0] 32 (0,0))) (hr0:Kd.R (Kd.int .i64) 3 w B (λ_=>True) (.slice A0 l0.length c0) l0) (hB:B<=g) (htab_:TabW w) (hq:Al.f k rest=some (q,true)) (hp:0<q.length) (h1:q.length=1) (n1:Int) (hn:rd q 0=n1) (cs:List Int) (hc:Aj.f k l0=some cs) (hcl:cs.length<100000) (ln:List Int) (hl:ln=cs++[n1]) (h:Am.f k ln=some false) :
  Calls Tryz.prog 19 #[.pointer (some ⟨g,0,none⟩),.string ⟨#[112,117,116]⟩,.string rest] w λe w'=>e=.returned (.string ⟨#[110,111]⟩)/\Ruled w w' B g l0:=by
 have HG:=Aa.mk hg;have HR:=Aa.mk hr0;have HB:=Aa.mk (WG w.heap.size w);have HBB:=Aa.mk (show B<=w.heap.size from WA hB (Nat.le_of_lt (Dp hg)));have HTAB_:=Aa.mk htab_;have cg:_=some _:=Ak hg 0;clear hg hr0 hB htab_;have hmm:=@run_makeMap Tryz.prog;have A1:=Aa.mk hq;have C2:=Aa.mk hp;clear hq hp;have A2:=Aa.mk h;have A3:=Aa.mk hc;have HN:=Aa.mk hn;have HL:=Aa.mk hl;have HCL:=Aa.mk hcl;have e1:(q.length:Int)=1:=by omega
 clear h hc hn hl hcl h1;go_enter Tryz.func19,Tryz.ntmps19
 go_upto_region 14 with (first
  | ((with_reducible refine Er (N:=61) rfl ?_);refine Fl 9 (plainElem Tryz.prog 3) ?hg (N:=61) ?hd ?hr ?_;(case hd=>rfl);(case hg=>rfl);(case hr=>first | (go_simp;done) | (go_simp;rfl));intro gm hgm wm hm hb;have GM:=Aa.mk (show w.heap.size<=gm by rw [hgm];exact (CO (by repeat (first | (with_reducible first | exact HB.out | apply Ad | apply Ac | apply Ae) | exact HB.out))));have n0_:=Aa.mk (Bt (by repeat (first | (with_reducible first | exact HB.out | apply Ad | apply Ac | apply Ae) | exact HB.out)) hb);have HM:=Aa.mk hm;clear hgm hm hb HB;have HB:=n0_;clear n0_) | (refine E0 _ rfl _ _ _ 67 rfl 9 3 keyS Tryz.underlying67 _ gm _ _ rfl HM.out (by unfold maxLen;omega) _ _ _ rfl rfl (Go.WideMaps.keyOf_string_mk Tryz.underlying9 (by decide)) _ [] (plainElem_int Tryz.underlying3 (by decide)) ?_;intro wm hm1 hg1;have n0_:=Aa.mk (Du HB.out _ HB.out.size hg1 (λk hk=>by obtain rfl:=AS hk;exact GM.out));have n1_:=Aa.mk hm1;clear HB HM hm1 hg1;have HB:=n0_;have HM:=n1_;clear n0_ n1_))
 have HMP:=Aa.mk (show World.ownsMap _ Tryz.prog 9 (plainElem Tryz.prog 3) gm 9 mpD from HM.out);clear HM;have hk1:(Instr.lookup 67 (.map (some gm)) (.string ⟨#[112,117,116]⟩) false).run Tryz.prog wm=.ok (.int .i64 1) wm:=Gr HMP.out rfl _ (by decide)
 go_wp2_with (first
  | (go_at_call 38;refine (Al.calls k rest q true _ A1.out (HTAB_.out.below (by repeat (first | (with_reducible first | exact HB.out | apply Ad | apply Ac | apply Ae) | exact HB.out)))).mono ?_;rintro e w1 ⟨v1,rfl,hr1,hb1⟩;obtain ⟨A7,c7,rfl⟩:=Kd.R_slice hr1;have HQ:=Aa.mk (Kd.R_lower hr1 (CO (by repeat (first | (with_reducible first | exact HB.out | apply Ad | apply Ac | apply Ae) | exact HB.out))));have n0_:=Aa.mk (Bt (by repeat (first | (with_reducible first | exact HB.out | apply Ad | apply Ac | apply Ae) | exact HB.out)) hb1);have hk2:(Instr.lookup 67 (.map (some gm)) (.string ⟨#[112,117,116]⟩) false).run Tryz.prog w1=.ok (.int .i64 1) w1:=Gr HMP.out (hb1.block gm HMP.out.lt) _ (by decide);clear HB hr1 hb1;have HB:=n0_;clear n0_;obtain ⟨ad7,e7,hx7⟩:=Kd.at_int (Kd.R_reads' HQ.out).2.2 0 (by omega) (by have:=C2.out;omega);cases e7;rw [HN.out] at hx7;rw [show ad7.add (0:Int).toNat=ad7 by simp [Addr.add]] at hx7;have hl7:=World.block_lt_of_cell? _ _ hx7;have p7:(0:Int)<(q.length:Int):=(by have:=C2.out;omega);have cg1:_=some _:=Ak (Bl HG.out HB.out) 0)
  | (go_at_call 41;refine (Aj.calls k _ _ l0 cs _ (Kd.C_below (Kd.R_reads' HR.out).2.2 HB.out) (Kd.R_reads' HR.out).2.1 A3.out).mono ?_;rintro e w2 ⟨v2,rfl,hr2,hb2⟩;obtain ⟨A8,c8,rfl⟩:=Kd.R_slice hr2;have HC8:=Aa.mk (Kd.R_lower hr2 (CO HB.out));have n0_:=Aa.mk (Bt HB.out hb2);clear HB hr2 hb2;have HB:=n0_;clear n0_)
  | ((with_reducible refine DD (b:=.append) (xs:=#[.tmp 106,.tmp 108]) rfl ?_);at_builtin;refine Kd.R_append (Kd.int .i64) (w0:=w) w.heap.size rfl (.tmp 106) (.tmp 108) 32 3 (.int .i64 0) 8 rfl Tryz.underlying32 info3 rfl (by decide) (by omega) (.slice A8 cs.length c8) cs n1 [.int .i64 n1] (λ_=>True) (λ_=>False) rfl rfl ?aP (λ_ hk=>hk.elim) ?aF ?aO ?aB ?aS ?aL ?_;(case aP=>exact rfl);(case aB=>exact (by repeat (first | (with_reducible first | exact HB.out | apply Ad | apply Ac | apply Ae) | exact HB.out)));(case aF=>exact (λk hk=>trivial));(case aO=>exact (by (with_reducible repeat (first | apply Kd.R_alloc | apply Kd.R_drewN | apply Kd.R_drew));exact HC8.out));(case aS=>exact HB.out.size);(case aL=>have:=HCL.out;omega);intro v1 w3 ho hb hg hat;rw [<- HL.out] at ho;obtain ⟨A9,c9,rfl⟩:=Kd.R_slice ho;have HO:=Aa.mk ho;have n0_:=Aa.mk hb;clear HB ho hb hg hat;have HB:=n0_;clear n0_)
  | (go_at_call 40;refine (Am.calls k _ _ ln false _ (Kd.R_reads' HO.out).2.2 (Kd.R_reads' HO.out).2.1 A2.out).mono ?_;rintro e w1_ ⟨rfl,⟨⟨n_,rfl⟩⟩⟩;have n0_:=Aa.mk (Ac (by repeat (first | (with_reducible first | exact HB.out | apply Ad | apply Ac | apply Ae) | exact HB.out)) n_);clear HB;have HB:=n0_;clear n0_;have n1_:=Aa.mk (Kd.R_drewN HO.out n_);clear HO;have HO:=n1_;clear n1_)
  | (go_at_call 39;refine (DY.no g _ _ _ _).mono ?_;rintro e w3 ⟨rfl,rfl⟩))
 go_ret;exact ⟨rfl,Ruled.same HG.out HR.out HB.out⟩
theorem Aq.go_drop (k:Nat) (B g:Nat) (A0:Option Addr) (c0:Nat) (l0 l1:List Int) (rest:ByteArray) (q:List Int) (w:World) (hg:w.heap[g]?=some (.cells #[.slice A0 l0.length c0] 32 (0,0))) (hr0:Kd.R (Kd.int .i64) 3 w B (λ_=>True) (.slice A0 l0.length c0) l0) (hB:B<=g) (htab_:TabW w) (hq:Al.f k rest=some (q,true)) (hp:0<q.length) (h1:q.length=1) (i:Nat) (hn:rd q 0=(i:Int)) (hi:i<l0.length) (hl1:l0.length≠1) (cs:List Int) (hc:Aj.f k l0=some cs) :
  Calls Tryz.prog 19 #[.pointer (some ⟨g,0,none⟩),.string ⟨#[100,114,111,112]⟩,.string rest] w λe w'=>e=.returned (.string ⟨#[111,107]⟩)/\Ruled w w' B g (cs.take i++cs.drop (i+1)):=by
 have HG:=Aa.mk hg;have HR:=Aa.mk hr0;have HB:=Aa.mk (WG w.heap.size w);have HBB:=Aa.mk (show B<=w.heap.size from WA hB (Nat.le_of_lt (Dp hg)));have HTAB_:=Aa.mk htab_;have cg:_=some _:=Ak hg 0;clear hg hr0 hB htab_;have hmm:=@run_makeMap Tryz.prog;have A1:=Aa.mk hq;have C2:=Aa.mk hp;clear hq hp
 obtain ⟨ls,hls⟩:∃ ls,cs.take i++cs.drop (i+1)=ls:=⟨_,rfl⟩
 rw [hls];have A3:=Aa.mk hc;have HN:=Aa.mk hn;have HL:=Aa.mk hls.symm;have HCL:=Aa.mk (K3 hc);have HI:=Aa.mk hi;have e1:(q.length:Int)=1:=by omega
 have e2:((i:Int)>=(l0.length:Int))=False:=eq_false (by omega);have e2b:((l0.length:Int)<=(i:Int))=False:=eq_false (by omega);have e2c:(l0.length<=i)=False:=eq_false (by omega);have e3:((l0.length:Int)==1)=false:=beq_eq_false_iff_ne.mpr (by omega);have hm:=Kd.C_max (Kd.R_reads' HR.out).2.2;have e4:IntKind.i64.wrap ((i:Int)+1)=((i+1:Nat):Int):=by rw [C9];unfold wrap64;omega
 clear hc hn hls hi hl1 h1 hm;go_enter Tryz.func19,Tryz.ntmps19
 go_upto_region 14 with (first
  | ((with_reducible refine Er (N:=61) rfl ?_);refine Fl 9 (plainElem Tryz.prog 3) ?hg (N:=61) ?hd ?hr ?_;(case hd=>rfl);(case hg=>rfl);(case hr=>first | (go_simp;done) | (go_simp;rfl));intro gm hgm wm hm hb;have GM:=Aa.mk (show w.heap.size<=gm by rw [hgm];exact (CO (by repeat (first | (with_reducible first | exact HB.out | apply Ad | apply Ac | apply Ae) | exact HB.out))));have n0_:=Aa.mk (Bt (by repeat (first | (with_reducible first | exact HB.out | apply Ad | apply Ac | apply Ae) | exact HB.out)) hb);have HM:=Aa.mk hm;clear hgm hm hb HB;have HB:=n0_;clear n0_) | (refine E0 _ rfl _ _ _ 67 rfl 9 3 keyS Tryz.underlying67 _ gm _ _ rfl HM.out (by unfold maxLen;omega) _ _ _ rfl rfl (Go.WideMaps.keyOf_string_mk Tryz.underlying9 (by decide)) _ [] (plainElem_int Tryz.underlying3 (by decide)) ?_;intro wm hm1 hg1;have n0_:=Aa.mk (Du HB.out _ HB.out.size hg1 (λk hk=>by obtain rfl:=AS hk;exact GM.out));have n1_:=Aa.mk hm1;clear HB HM hm1 hg1;have HB:=n0_;have HM:=n1_;clear n0_ n1_))
 have HMP:=Aa.mk (show World.ownsMap _ Tryz.prog 9 (plainElem Tryz.prog 3) gm 9 mpD from HM.out);clear HM;have hk1:(Instr.lookup 67 (.map (some gm)) (.string ⟨#[100,114,111,112]⟩) false).run Tryz.prog wm=.ok (.int .i64 1) wm:=Gr HMP.out rfl _ (by decide)
 go_wp2_with (first
  | (go_at_call 38;refine (Al.calls k rest q true _ A1.out (HTAB_.out.below (by repeat (first | (with_reducible first | exact HB.out | apply Ad | apply Ac | apply Ae) | exact HB.out)))).mono ?_;rintro e w1 ⟨v1,rfl,hr1,hb1⟩;obtain ⟨A7,c7,rfl⟩:=Kd.R_slice hr1;have HQ:=Aa.mk (Kd.R_lower hr1 (CO (by repeat (first | (with_reducible first | exact HB.out | apply Ad | apply Ac | apply Ae) | exact HB.out))));have n0_:=Aa.mk (Bt (by repeat (first | (with_reducible first | exact HB.out | apply Ad | apply Ac | apply Ae) | exact HB.out)) hb1);have hk2:(Instr.lookup 67 (.map (some gm)) (.string ⟨#[100,114,111,112]⟩) false).run Tryz.prog w1=.ok (.int .i64 1) w1:=Gr HMP.out (hb1.block gm HMP.out.lt) _ (by decide);clear HB hr1 hb1;have HB:=n0_;clear n0_;obtain ⟨ad7,e7,hx7⟩:=Kd.at_int (Kd.R_reads' HQ.out).2.2 0 (by omega) (by have:=C2.out;omega);cases e7;rw [HN.out] at hx7;rw [show ad7.add (0:Int).toNat=ad7 by simp [Addr.add]] at hx7;have hl7:=World.block_lt_of_cell? _ _ hx7;have p7:(0:Int)<(q.length:Int):=(by have:=C2.out;omega);have cg1:_=some _:=Ak (Bl HG.out HB.out) 0)
  | (go_at_call 41;refine (Aj.calls k _ _ l0 cs _ (Kd.C_below (Kd.R_reads' HR.out).2.2 HB.out) (Kd.R_reads' HR.out).2.1 A3.out).mono ?_;rintro e w2 ⟨v2,rfl,hr2,hb2⟩;obtain ⟨g8,c8,rfl,_⟩:=Kd.R_form hr2 HCL.out.2.1;have HC8:=Aa.mk (Kd.R_lower hr2 (CO HB.out));have n0_:=Aa.mk (Bt HB.out hb2);clear HB hr2 hb2;have HB:=n0_;clear n0_)
  | (go_at_call 42;refine (KQ.callsR g8 c8 i cs ls w _ HC8.out (by rw [HCL.out.1];exact HI.out) HL.out HB.out).mono ?_;rintro e w3 ⟨rfl,ho,hb⟩;have HO:=Aa.mk ho;have n0_:=Aa.mk hb;clear HB ho hb;have HB:=n0_;clear n0_)
  | (go_at_call 39;refine (DY.yes g _ _ _ _ _ (Bl HG.out (by repeat (first | (with_reducible first | exact HB.out | apply Ad | apply Ac | apply Ae) | exact HB.out)))).mono ?_;rintro e w3 ⟨rfl,rfl⟩))
 go_ret;exact ⟨rfl,Ruled.put HG.out HB.out HO.out HBB.out⟩

end
end Go.Proofs.YtlgojeodceiglaaGreatDoor.PFnExactExecute
