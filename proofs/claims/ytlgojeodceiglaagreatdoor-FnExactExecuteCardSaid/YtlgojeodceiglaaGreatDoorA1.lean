/- Execute: An evaluator over the program's form, proved sound: what it tells, the machine does. -/
import Derived.Test.YtlgojeodceiglaaGreatDoorA0
import Derived.Lib.LaidTab
import Derived.Lib.ItoaNum
namespace Go.Proofs.YtlgojeodceiglaaGreatDoor.PFnExactExecute
open Go.RowKit Go.Proofs.YtlgojeodceiglaaGreatDoorW.PrintWords Go.Proofs.YtlgojeodceiglaaGreatDoorW.PrintLast Go.Proofs.YtlgojeodceiglaaGreatDoorW.PrintMore
attribute [local go_sem] WO WQ WS WT WM WN WP WR
set_option linter.unusedVariables false
set_option linter.unusedSimpArgs false
set_option maxRecDepth 100000
set_option maxHeartbeats 0
section
def errW:Option Int->Value
 | none=>.nilIface
 | some c=>.iface 0 (.int .i64 c)
theorem Fc:errW none=.nilIface:=rfl
theorem Fd (c:Int):errW (some c)=.iface 0 (.int .i64 c):=rfl
theorem info3:(Tryz.prog.info? 3).map (λi=>(i.zero,i.size,i.bytes))=some (some (.int .i64 0),1,8):=by kernel_rfl
theorem info5:(Tryz.prog.info? 5).map (λi=>(i.zero,i.size,i.bytes))=some (some (.int .u8 0),1,1):=by kernel_rfl
theorem info9:(Tryz.prog.info? 9).map (λi=>(i.zero,i.size,i.bytes))=some (some (.string ⟨#[]⟩),1,16):=by kernel_rfl
theorem Uk:(Tryz.prog.info? 96).map (λi=>(i.zero,i.size,i.bytes))=some (some (.agg #[(.int .u8 0),(.slice none 0 0)]),2,32):=by kernel_rfl
structure S96 where
 f0:Int
 f1:(List S96)
def z96:S96:=⟨(0:Int),([]:List S96)⟩
def F96 (d:Kd S96):Kd S96:=Kd.iso (Kd.pair (Kd.int .u8) (Kd.slice 96 d)) (λx:S96=>(x.f0,x.f1))
theorem LS:Kd.Mono F96:=Kd.mono_iso _ (Kd.mono_pair (Kd.mono_const _) (Kd.mono_slice 96 Kd.mono_id))
theorem sub96:Kd.Sub F96 [96]:=Kd.sub_iso _ (Kd.sub_pair (Kd.sub_const _ (by decide)) (Kd.sub_slice 96 (by decide) Kd.sub_id))
theorem sz96:∀ n,(Kd.upto F96 2 [96] n).sz=2:=Kd.upto_sz (λ_=>rfl)
def k96:Kd S96:=Kd.fix F96 2 [96] sz96 (Kd.upto_E sub96)
theorem MP {w:World} {x:S96} {cs:List Value} (h:k96.K w x cs):∃ A1 c1,cs=[.int .u8 x.f0,.slice A1 x.f1.length c1]/\x.f1.length<=c1/\k96.C w A1 x.f1.length x.f1:=by
 obtain ⟨n,h⟩:=h
 cases n with
 | zero=>exact h.elim
 | succ n=>
  obtain ⟨_,_,rfl,rfl,⟨A1,c1,rfl,l1,g1⟩⟩:=h;exact ⟨A1,c1,rfl,l1,Kd.fix_C g1⟩
theorem Ul (w:World) (x:S96) {A1:Option Addr} {c1:Nat} (l1:x.f1.length<=c1) (g1:k96.C w A1 x.f1.length x.f1):k96.K w x [.int .u8 x.f0,.slice A1 x.f1.length c1]:=by
 obtain ⟨n1,q1⟩:=Kd.fix_C_back LS g1;have r1:=Kd.upto_C_le LS sz96 (show n1<=n1 by omega) q1;exact ⟨n1+1,⟨[.int .u8 x.f0],[.slice A1 x.f1.length c1],rfl,rfl,⟨A1,c1,rfl,l1,r1⟩⟩⟩
theorem LR (w:World) (base:Nat) (ok:Nat->Prop) (x:S96) {v1:Value} (g1:k96.R 96 w base ok v1 x.f1):k96.M w base ok x [.int .u8 x.f0,v1]:=by
 obtain ⟨n1,q1⟩:=Kd.fix_R_back LS g1;have r1:=Kd.upto_R_le LS sz96 (show n1<=n1 by omega) q1;exact ⟨n1+1,⟨[.int .u8 x.f0],[v1],rfl,rfl,⟨v1,rfl,r1⟩⟩⟩
def CH (xs:List S96) (i:Int):S96:=xs.getD i.toNat z96
def EU (xs:List (List Int)) (i:Int):(List Int):=xs.getD i.toNat ([]:List Int)
structure S150 where
 f0:Int
 f1:(List S150)
def z150:S150:=⟨(0:Int),([]:List S150)⟩
def F150 (d:Kd S150):Kd S150:=Kd.iso (Kd.pair (Kd.int .u8) (Kd.slice 150 d)) (λx:S150=>(x.f0,x.f1))
theorem OJ:Kd.Mono F150:=Kd.mono_iso _ (Kd.mono_pair (Kd.mono_const _) (Kd.mono_slice 150 Kd.mono_id))
theorem UN:Kd.Sub F150 [150]:=Kd.sub_iso _ (Kd.sub_pair (Kd.sub_const _ (by decide)) (Kd.sub_slice 150 (by decide) Kd.sub_id))
theorem sz150:∀ n,(Kd.upto F150 2 [150] n).sz=2:=Kd.upto_sz (λ_=>rfl)
def k150:Kd S150:=Kd.fix F150 2 [150] sz150 (Kd.upto_E UN)
theorem Lc {w:World} {x:S150} {cs:List Value} (h:k150.K w x cs):∃ A1 c1,cs=[.int .u8 x.f0,.slice A1 x.f1.length c1]/\x.f1.length<=c1/\k150.C w A1 x.f1.length x.f1:=by
 obtain ⟨n,h⟩:=h
 cases n with
 | zero=>exact h.elim
 | succ n=>
  obtain ⟨_,_,rfl,rfl,⟨A1,c1,rfl,l1,g1⟩⟩:=h;exact ⟨A1,c1,rfl,l1,Kd.fix_C g1⟩
theorem SO (w:World) (x:S150) {A1:Option Addr} {c1:Nat} (l1:x.f1.length<=c1) (g1:k150.C w A1 x.f1.length x.f1):k150.K w x [.int .u8 x.f0,.slice A1 x.f1.length c1]:=by
 obtain ⟨n1,q1⟩:=Kd.fix_C_back OJ g1;have r1:=Kd.upto_C_le OJ sz150 (show n1<=n1 by omega) q1;exact ⟨n1+1,⟨[.int .u8 x.f0],[.slice A1 x.f1.length c1],rfl,rfl,⟨A1,c1,rfl,l1,r1⟩⟩⟩
def BO (xs:List S150) (i:Int):S150:=xs.getD i.toNat z150
theorem AI:type_of% @Option.bind_some:=@Option.bind_some
theorem AS:type_of% @Option.some.inj:=@Option.some.inj
theorem AT:type_of% @Option.some.injEq:=@Option.some.injEq
theorem By:type_of% @Option.bind_eq_some_iff:=@Option.bind_eq_some_iff
theorem If:type_of% @Prod.mk.injEq:=@Prod.mk.injEq
theorem In:type_of% @Prod.mk.inj:=@Prod.mk.inj
theorem It:type_of% @List.length_cons:=@List.length_cons
theorem IN:type_of% @List.length_append:=@List.length_append
theorem IS:type_of% @List.length_nil:=@List.length_nil
theorem IT:type_of% @List.length_take:=@List.length_take
theorem No:type_of% @List.length_drop:=@List.length_drop
theorem NO:type_of% @List.length_map:=@List.length_map
theorem OF:type_of% @List.length_replicate:=@List.length_replicate
theorem Rr:type_of% @Int.toNat_natCast:=@Int.toNat_natCast
theorem S2:type_of% @List.mem_cons_of_mem:=@List.mem_cons_of_mem
theorem TO:type_of% @List.mem_cons_self:=@List.mem_cons_self
theorem Wk:type_of% @List.getElem_mem:=@List.getElem_mem
theorem Wl:type_of% @List.drop_eq_getElem_cons:=@List.drop_eq_getElem_cons
theorem Wm:type_of% @List.drop_eq_nil_of_le:=@List.drop_eq_nil_of_le
theorem Wn:type_of% @Nat.le_refl:=@Nat.le_refl
theorem Wo:type_of% @decide_eq_true:=@decide_eq_true
theorem Wp:type_of% @decide_eq_false:=@decide_eq_false
theorem Wq:type_of% @decide_eq_true_eq:=@decide_eq_true_eq
theorem Wr:type_of% @List.append_assoc:=@List.append_assoc
theorem Ws:type_of% @List.nil_append:=@List.nil_append
theorem Wt:type_of% @List.foldl_cons:=@List.foldl_cons
theorem Wu:type_of% @List.range'_succ:=@List.range'_succ
theorem Ww:type_of% @List.mem_append:=@List.mem_append
theorem Wx:type_of% @List.mem_singleton:=@List.mem_singleton
theorem Wy:type_of% @List.mem_cons:=@List.mem_cons
theorem Wz:type_of% @List.map_cons:=@List.map_cons
theorem WA:type_of% @Nat.le_trans:=@Nat.le_trans
theorem WB:type_of% @Int.le_trans:=@Int.le_trans
theorem WC:type_of% @Nat.zero_le:=@Nat.zero_le
theorem WD:type_of% @List.flatMap_cons:=@List.flatMap_cons
theorem WE:type_of% @List.take_zero:=@List.take_zero
theorem WF:type_of% @List.drop_zero:=@List.drop_zero
theorem WG:type_of% @Below.refl:=@Below.refl
theorem WH:type_of% @List.getElem?_eq_getElem:=@List.getElem?_eq_getElem
theorem WI:type_of% @List.getD_eq_getElem?_getD:=@List.getD_eq_getElem?_getD
theorem WJ:type_of% @Bool.eq_false_iff:=@Bool.eq_false_iff
theorem WK:type_of% @Nat.lt_of_lt_of_le:=@Nat.lt_of_lt_of_le
theorem WL:type_of% @congrArg:=@congrArg
end
section
inductive Ty | i | b | y | s | l
@[reducible] def Ty.A:Ty->Type | .i=>Int | .b=>Bool | .y=>Int | .s=>ByteArray | .l=>List Int
def Ty.d:(t:Ty)->Kd t.A | .i=>Kd.int .i64 | .b=>Kd.bool | .y=>Kd.int .u8 | .s=>Kd.string | .l=>Kd.slice 3 (Kd.int .i64)
def Ty.e:Ty->Nat | .i=>3 | .b=>4 | .y=>5 | .s=>9 | .l=>32
def Ty.t:Ty->Nat | .i=>32 | .b=>130 | .y=>22 | .s=>36 | .l=>75
inductive Tq | m | n
@[reducible] def Tq.S:Tq->Type | .m=>S96 | .n=>S150
def Tq.k:(q:Tq)->Kd q.S | .m=>k96 | .n=>k150
def Tq.e:Tq->Nat | .m=>96 | .n=>150
def Tq.t:Tq->Nat | .m=>94 | .n=>148
def Tq.f0:(q:Tq)->q.S->Int | .m,s=>s.f0 | .n,s=>s.f0
def Tq.f1:(q:Tq)->q.S->List q.S | .m,s=>s.f1 | .n,s=>s.f1
def Tq.rd:(q:Tq)->List q.S->Int->q.S | .m,xs,i=>CH xs i | .n,xs,i=>BO xs i
def Tq.mk:(q:Tq)->Int->List q.S->q.S | .m,a,b=>⟨a,b⟩ | .n,a,b=>⟨a,b⟩
def lkm (s:ByteArray):Int:=
 if s.toList=[112,117,116] then 1 else if s.toList=[100,114,111,112] then 1 else if s.toList=[97,108,108] then 1 else if s.toList=[114,111,117,110,100] then 1 else if s.toList=[119,104,111,108,101] then 1 else if s.toList=[112,111,108,121,115] then 2 else if s.toList=[99,104,97,105,110] then 1 else if s.toList=[115,111,108,105,100] then 6 else if s.toList=[102,105,114,115,116] then 6 else 0
inductive FV | g (q:Tq) (xs:List q.S) | k (q:Tq) (s:q.S) | r (q:Tq) (s:q.S) | ar (xs:List Int) | mp
inductive BV | u | vd | i (n:Int) | b (x:Bool) | y (n:Int) | s (x:ByteArray) | f (t:Ty) (xs:List t.A) | o (t:Ty) (xs:List t.A) | h (x:FV)
inductive AV | v (x:BV) | a (j:Nat) | w (j:Nat) (t:Ty) (xs:List t.A) | p (x:BV) | q (j:Nat) (n:Int) | t (xs:List BV) | z (q:Tq)
abbrev St:=List (Nat×AV)
def look:St->Nat->Option AV
 | [],_=>none
 | (j,x)::σ,i=>bif Nat.beq j i then some x else look σ i
def Ty.at:(t:Ty)->List t.A->Int->BV
 | .i,xs,n=>.i (rd xs n)
 | .b,xs,n=>.b (rdOf false xs n)
 | .y,xs,n=>.y (rd xs n)
 | .s,xs,n=>.s (rdOf ByteArray.empty xs n)
 | .l,xs,n=>.f .i (EU xs n)
def fr (G:Nat->Prop) (O:Nat->Option Nat) (k:Nat):Prop:=G k/\∀ j,O j≠some k
def FV.R (w:World) (ok:Nat->Prop):FV->Value->Prop
 | .g q xs,v=>∃ A c,v=.slice A xs.length c/\xs.length<=c/\Kd.F q.k w ok A xs.length xs
 | .k q s,v=>∃ A c,v=.agg #[.int .u8 (q.f0 s),.slice A (q.f1 s).length c]/\(q.f1 s).length<=c/\Kd.F q.k w ok A (q.f1 s).length (q.f1 s)
 | .r q s,v=>∃ ad A c,v=.pointer (some ad)/\ok ad.block/\w.cell? ad=some (.int .u8 (q.f0 s))/\w.cell? ⟨ad.block,ad.off+1,none⟩=some (.slice A (q.f1 s).length c)/\(q.f1 s).length<=c/\Kd.F q.k w ok A (q.f1 s).length (q.f1 s)
 | .ar xs,v=>v=.agg (xs.map (Value.int .i64)).toArray
 | .mp,v=>∃ g,v=.map (some g)/\ok g/\g<w.heap.size/\∀ w1:World,w1.heap[g]?=w.heap[g]?->∀ s:ByteArray,s.size<=maxLen->(Instr.lookup 67 v (.string s) false).run Tryz.prog w1=.ok (.int .i64 (lkm s)) w1
def bvr (b:Nat) (G:Nat->Prop) (O:Nat->Option Nat) (w:World) (i:Nat):BV->Value->Prop
 | .u,_=>True
 | .vd,v=>v=undef
 | .i n,v=>v=.int .i64 n
 | .b x,v=>v=.bool x
 | .y n,v=>v=.int .u8 n
 | .s x,v=>v=.string x
 | .f t xs,v=>Kd.V t.d t.e w b (fr G O) v xs
 | .o t xs,v=>Kd.N t.d t.e w b (λk=>O i=some k\/fr G O k) v xs/\v.ownBlock=O i
 | .h x,v=>x.R w (fr G O) v
def BV.own:BV->Bool | .o _ _=>true | _=>false
def avr (b:Nat) (G:Nat->Prop) (O:Nat->Option Nat) (σ:St) (w:World) (tm:Nat->Value) (i:Nat):AV->Value->Prop
 | .v x,v=>bvr b G O w i x v
 | .a j,v=>v=tm j/\∃ t xs,look σ j=some (.v (.o t xs))
 | .w j t xs,v=>Kd.V t.d t.e w b (λk=>O j=some k\/fr G O k) v xs/\∃ t' ys,look σ j=some (.v (.o t' ys))
 | .p x,v=>x.own=false/\∃ ad u,v=.pointer (some ad)/\w.cell? ad=some u/\fr G O ad.block/\bvr b G O w i x u
 | .q j n,v=>∃ t xs g cap,look σ j=some (.v (.o t xs))/\0<=n/\n<(xs.length:Int)/\tm j=.slice (some ⟨g,0,none⟩) xs.length cap/\v=.pointer (some ⟨g,n.toNat,none⟩)
 | .t xs,v=>∃ arr:Array Value,v=.tuple arr/\arr.size=xs.length/\∀ (k:Nat) (x:BV),xs[k]?=some x->∃ u,arr[k]?=some u/\bvr b G O w i x u
 | .z q,v=>∃ g,O i=some g/\v=.pointer (some ⟨g,0,none⟩)/\w.heap[g]?=some (.cells #[.int .u8 0,.slice none 0 0] q.e (0,0))/\b<=g
structure RO (b:Nat) (G:Nat->Prop) (O:Nat->Option Nat) (σ:St) (tm:Nat->Value) (w:World):Prop where
 inj:∀ i j k,O i=some k->O j=some k->i=j
 old:∀ i k,O i=some k->k<w.heap.size
 val:∀ i x,look σ i=some x->avr b G O σ w tm i x (tm i)
def AV.dep (i:Nat):AV->Option Nat
 | .v (.o _ _)=>some i
 | .v _=>none
 | .a j=>some j
 | .w j _ _=>some j
 | .p _=>none
 | .q j _=>some j
 | .t xs=>if xs.any BV.own then some i else none
 | .z _=>some i
section
variable {b:Nat} {G:Nat->Prop} {O O':Nat->Option Nat} {σ σ':St} {w w':World} {tm tm':Nat->Value} {i:Nat} {x:AV} {v:Value}
theorem I2 {a:Addr} {u:Value} (h:w.cell? a=some u) (he:w'.heap[a.block]?=w.heap[a.block]?):w'.cell? a=some u:=by
 simpa [World.cell?,he] using h
theorem Vb {t:Ty} {xs:List t.A} {ok ok':Nat->Prop} (h:Kd.V t.d t.e w b ok v xs) (hh:∀ k,k<w.heap.size->ok k->w'.heap[k]?=w.heap[k]?) (hm:∀ k,k<w.heap.size->ok k->ok' k):Kd.V t.d t.e w' b ok' v xs:=
 Kd.V_mono (e:=t.e) (base:=b) (Kd.V_step (e:=t.e) (base:=b) (Kd.V_bound (e:=t.e) (base:=b) h) (λk hk hlt=>hh k hlt hk.1)) (λk hk=>hm k hk.2 hk.1)
theorem V3 {t:Ty} {xs:List t.A} {ok ok':Nat->Prop} (h:Kd.N t.d t.e w b ok v xs) (hh:∀ k,k<w.heap.size->ok k->w'.heap[k]?=w.heap[k]?) (hm:∀ k,k<w.heap.size->ok k->ok' k):Kd.N t.d t.e w' b ok' v xs:=
 Kd.N_mono (Kd.N_step (Kd.N_bound h) (λk hk hlt=>hh k hlt hk.1)) (λk hk=>hm k hk.2 hk.1)
theorem R6 {α:Type} {d:Kd α} {A:Option Addr} {n:Nat} {xs:List α} {ok ok':Nat->Prop} (h:Kd.F d w ok A n xs) (hh:∀ k,k<w.heap.size->ok k->w'.heap[k]?=w.heap[k]?) (hm:∀ k,k<w.heap.size->ok k->ok' k):Kd.F d w' ok' A n xs:=
 Kd.F_mono (Kd.F_step (Kd.F_bound h) (λk hk hlt=>hh k hlt hk.1)) (λk hk=>hm k hk.2 hk.1)
theorem FV.go {x:FV} {ok ok':Nat->Prop} (h:x.R w ok v) (hh:∀ k,k<w.heap.size->ok k->w'.heap[k]?=w.heap[k]?) (hm:∀ k,k<w.heap.size->ok k->ok' k):x.R w' ok' v:=by
 cases x with
 | g q xs=>obtain ⟨A,c,h1,h2,h3⟩:=h;exact ⟨A,c,h1,h2,R6 h3 hh hm⟩
 | k q s=>obtain ⟨A,c,h1,h2,h3⟩:=h;exact ⟨A,c,h1,h2,R6 h3 hh hm⟩
 | r q s=>
  obtain ⟨ad,A,c,h1,h2,h3,h4,h5,h6⟩:=h;have hlt:=World.block_lt_of_cell? w ad h3
  exact ⟨ad,A,c,h1,hm _ hlt h2,I2 h3 (hh _ hlt h2),I2 h4 (hh _ hlt h2),h5,R6 h6 hh hm⟩
 | ar xs=>exact h
 | mp=>
  obtain ⟨g,h1,h2,h3,h4⟩:=h;have h5:=hh g h3 h2;refine ⟨g,h1,hm g h3 h2,?_,λw1 hw=>h4 w1 (hw.trans h5)⟩;exact (Array.getElem?_eq_some_iff.1 (h5.trans (Array.getElem?_eq_getElem h3))).1
theorem FV.mono {x:FV} {ok ok':Nat->Prop} (h:x.R w ok v) (hm:∀ k,ok k->ok' k):x.R w ok' v:=FV.go h (λ_ _ _=>rfl) (λk _=>hm k)
theorem Is {x:BV} (hh:∀ k,k<w.heap.size->fr G O k->w'.heap[k]?=w.heap[k]?) (hf:∀ k,k<w.heap.size->fr G O k->fr G O' k)
  (hd:x.own=true->O' i=O i/\∀ k,O i=some k->w'.heap[k]?=w.heap[k]?) (h:bvr b G O w i x v):bvr b G O' w' i x v:=by
 cases x with
 | f t xs=>exact Vb (b:=b) h hh hf
 | h x=>exact FV.go h hh hf
 | o t xs=>
  obtain ⟨h1,h2⟩:=hd rfl
  exact ⟨V3 h.1 (λk hlt hk=>hk.elim (h2 k) (hh k hlt)) (λk hlt hk=>hk.imp h1.trans (hf k hlt)),by rw [h1];exact h.2⟩
 | _=>exact h
theorem JZ (hh:∀ k,k<w.heap.size->fr G O k->w'.heap[k]?=w.heap[k]?) (hf:∀ k,k<w.heap.size->fr G O k->fr G O' k)
  (hd:∀ j,x.dep i=some j->look σ' j=look σ j/\tm' j=tm j/\O' j=O j/\∀ k,O j=some k->w'.heap[k]?=w.heap[k]?) (h:avr b G O σ w tm i x v):avr b G O' σ' w' tm' i x v:=by
 cases x with
 | v x=>
  refine Is hh hf (λho=>?_) h;cases x<;>simp only [BV.own,Bool.false_eq_true] at ho
  exact ⟨(hd i rfl).2.2.1,(hd i rfl).2.2.2⟩
 | a j=>
  obtain ⟨h1,h2,_⟩:=hd j rfl
  exact ⟨h.1.trans h2.symm,by rw [h1];exact h.2⟩
 | w j t xs=>
  obtain ⟨h1,h2,h3,h4⟩:=hd j rfl
  exact ⟨Vb (b:=b) h.1 (λk hlt hk=>hk.elim (h4 k) (hh k hlt)) (λk hlt hk=>hk.imp h3.trans (hf k hlt)),by rw [h1];exact h.2⟩
 | p x=>
  obtain ⟨ho,ad,u,rfl,hc,hb,hx⟩:=h;have hlt:=World.block_lt_of_cell? w ad hc
  exact ⟨ho,ad,u,rfl,I2 hc (hh _ hlt hb),hf _ hlt hb,Is hh hf (λh1=>by rw [ho] at h1;cases h1) hx⟩
 | q j n=>
  obtain ⟨h1,h2,h3,h4⟩:=hd j rfl;obtain ⟨t,xs,g,cap,k1,k2,k3,k4,k5⟩:=h
  exact ⟨t,xs,g,cap,h1.trans k1,k2,k3,h2.trans k4,k5⟩
 | t xs=>
  obtain ⟨arr,rfl,hs,ha⟩:=h;refine ⟨arr,rfl,hs,λk x hx=>?_⟩;obtain ⟨u,hu,hv⟩:=ha k x hx;refine ⟨u,hu,Is hh hf (λho=>?_) hv⟩;have hany:xs.any BV.own=true:=List.any_eq_true.2 ⟨x,List.mem_of_getElem? hx,ho⟩;have:=hd i (by simp [AV.dep,hany])
  exact ⟨this.2.2.1,this.2.2.2⟩
 | z q=>
  obtain ⟨h1,h2,h3,h4⟩:=hd i rfl;obtain ⟨g,k1,k2,k3,k4⟩:=h;exact ⟨g,h3.trans k1,k2,(h4 g k1).trans k3,k4⟩
theorem RO.upd (K:Nat->Prop) (h:RO b G O σ tm w) (hsz:w.heap.size<=w'.heap.size) (hh:∀ k,k<w.heap.size->fr G O k->w'.heap[k]?=w.heap[k]?) (hf:∀ k,k<w.heap.size->fr G O k->fr G O' k)
  (hO:∀ j,¬ K j->tm' j=tm j/\O' j=O j/\∀ k,O j=some k->w'.heap[k]?=w.heap[k]?)
  (hσ:∀ j x,¬ K j->look σ' j=some x->x=.v .u\/(look σ j=some x/\∀ d,x.dep j=some d->¬ K d/\look σ' d=look σ d))
  (hinj:∀ i j k,O' i=some k->O' j=some k->i=j) (hold:∀ i k,O' i=some k->k<w'.heap.size)
  (hK:∀ j x,K j->look σ' j=some x->avr b G O' σ' w' tm' j x (tm' j)):RO b G O' σ' tm' w':=by
 refine ⟨hinj,hold,λj x hx=>?_⟩;by_cases hj:K j
 ·exact hK j x hj hx
 ·rcases hσ j x hj hx with rfl | ⟨h1,h2⟩
  ·trivial
  ·rw [(hO j hj).1];exact JZ hh hf (λd hd=>⟨(h2 d hd).2,hO d (h2 d hd).1⟩) (h.val j x h1)
end

end
section
inductive RV | n | v (x:BV) | A (j:Nat) (t:Ty) (xs:List t.A) | W (j:Nat) (t:Ty) (xs:List t.A) | p (x:BV) | q (j:Nat) (t:Ty) (xs:List t.A) (n:Int) | t (i:Nat) (xs:List BV) | z (i:Nat) (q:Tq)
def rsO (σ:St) (j:Nat) (f:(ty:Ty)->List ty.A->RV):RV:=match look σ j with
 | some (.v (.o ty xs))=>f ty xs
 | _=>.n
def rsV (σ:St) (t:Nat):AV->RV
 | .v (.o ty xs)=>.A t ty xs
 | .v x=>.v x
 | .a j=>rsO σ j (.A j)
 | .w j ty xs=>.W j ty xs
 | .p x=>.p x
 | .q j n=>rsO σ j λty xs=>.q j ty xs n
 | .t xs=>.t t xs
 | .z q=>.z t q
def rsC:Value->RV
 | .int .i64 n=>.v (.i n)
 | .int .u8 n=>.v (.y n)
 | .bool x=>.v (.b x)
 | .string s=>.v (.s s)
 | _=>.n
def rs (σ:St):Operand->RV
 | .tmp t=>match look σ t with
  | some x=>rsV σ t x
  | none=>.n
 | .const v=>rsC v
 | _=>.n
structure LV where
 mk ::
 ty:Ty
 xs:List ty.A
def lsOf:RV->Option LV
 | .v (.f t xs)=>some ⟨t,xs⟩
 | .A _ t xs=>some ⟨t,xs⟩
 | .W _ t xs=>some ⟨t,xs⟩
 | _=>none
def bii (op:BinOp) (m n:Int):Option (Prop×BV):=match op with
 | .add=>some (True,.i (wrap64 (m+n)))
 | .sub=>some (True,.i (wrap64 (m-n)))
 | .mul=>some (True,.i (wrap64 (m*n)))
 | .quo=>some (n≠0,.i (wrap64 (Int.tdiv m n)))
 | .rem=>some (n≠0,.i (Int.tmod m n))
 | .and=>some (True,.i (Go.bits .and .i64 m n))
 | .or=>some (True,.i (Go.bits .or .i64 m n))
 | .andNot=>some (True,.i (Go.bits .andNot .i64 m n))
 | .shl=>some (0<=n,.i (shl .i64 m n))
 | .shr=>some (0<=n,.i (shr .i64 m n))
 | .eql=>some (True,.b (decide (m=n)))
 | .neq=>some (True,.b (!decide (m=n)))
 | .lss=>some (True,.b (decide (m<n)))
 | .leq=>some (True,.b (decide (m<=n)))
 | .gtr=>some (True,.b (decide (n<m)))
 | .geq=>some (True,.b (decide (n<=m)))
 | _=>none
def byy (op:BinOp) (m n:Int):Option (Prop×BV):=match op with
 | .add=>some (True,.y ((m+n) % 256))
 | .sub=>some (True,.y ((m-n) % 256))
 | .eql=>some (True,.b (decide (m=n)))
 | .neq=>some (True,.b (!decide (m=n)))
 | .lss=>some (True,.b (decide (m<n)))
 | .gtr=>some (True,.b (decide (n<m)))
 | .leq=>some (True,.b (decide (m<=n)))
 | .geq=>some (True,.b (decide (n<=m)))
 | _=>none
theorem beqs (a c:ByteArray):(a.toList==c.toList)=decide (a.toList=c.toList):=by
 by_cases h:a.toList=c.toList
 ·rw [h];simp
 ·rw [Wp h];simpa using h
def bss (op:BinOp) (m n:ByteArray):Option (Prop×BV):=match op with
 | .add=>some (m.size+n.size<=9223372036854775807,.s (m++n))
 | .eql=>some (True,.b (decide (m.toList=n.toList)))
 | .neq=>some (True,.b (!decide (m.toList=n.toList)))
 | _=>none
section
variable {ρ:Operand->Value} {d:Option Nat} {x y:Operand} {t ty t':Nat} {p:String} {af:Array Edge} {g:Option (Nat×Bool)} {m n:Int} {r s:ByteArray} {w:World} {C:Prop} {z:BV} {b:Nat} {G:Nat->Prop} {O:Nat->Option Nat}
theorem Sj {op:BinOp} (hx:ρ x=.int .i64 m) (hy:ρ y=.int .i64 n) (h:bii op m n=some (C,z)) (hC:C):∃ v,(execOp ρ ⟨d,.binOp op t x y t',ty,p,af,g⟩).run Tryz.prog w=.ok (.value v) w/\z.own=false/\∀ G O i,bvr b G O w i z v:=by
 cases op<;>simp only [bii,AT,If,reduceCtorEq] at h<;>obtain ⟨rfl,rfl⟩:=h<;>first
  | exact ⟨_,by simp [go_sem,execOp,hx,hy,C9,shl,shr,hC];rfl,rfl,λ_ _ _=>rfl⟩
  | exact ⟨_,by simp [go_sem,execOp,hx,hy,C9,shl,shr,hC],rfl,λ_ _ _=>rfl⟩
theorem So {op:BinOp} (hx:ρ x=.int .u8 m) (hy:ρ y=.int .u8 n) (h:byy op m n=some (C,z)) (hC:C):∃ v,(execOp ρ ⟨d,.binOp op t x y t',ty,p,af,g⟩).run Tryz.prog w=.ok (.value v) w/\z.own=false/\∀ G O i,bvr b G O w i z v:=by
 cases op<;>simp only [byy,AT,If,reduceCtorEq] at h<;>obtain ⟨rfl,rfl⟩:=h<;>first
  | exact ⟨_,by simp [go_sem,execOp,hx,hy,hC];rfl,rfl,λ_ _ _=>rfl⟩
  | exact ⟨_,by simp [go_sem,execOp,hx,hy,hC],rfl,λ_ _ _=>rfl⟩
theorem Sm {op:BinOp} (hx:ρ x=.string r) (hy:ρ y=.string s) (h:bss op r s=some (C,z)) (hC:C):∃ v,(execOp ρ ⟨d,.binOp op t x y t',ty,p,af,g⟩).run Tryz.prog w=.ok (.value v) w/\z.own=false/\∀ G O i,bvr b G O w i z v:=by
 cases op<;>simp only [bss,AT,If,reduceCtorEq] at h<;>obtain ⟨rfl,rfl⟩:=h<;>first
  | exact ⟨_,by simp [go_sem,execOp,hx,hy,hC,beqs];rfl,rfl,λ_ _ _=>rfl⟩
  | exact ⟨_,by simp [go_sem,execOp,hx,hy,hC,beqs],rfl,λ_ _ _=>rfl⟩
end

end
section
def ofE':Nat->Bool | 94=>true | 148=>true | 3=>true | 4=>true | 5=>true | 9=>true | 32=>true | _=>false
section
theorem und (t:Ty):Tryz.prog.underlying t.t=some (.slice t.e):=by cases t<;>kernel_rfl
def Ty.zv:Ty->Value | .i=>.int .i64 0 | .b=>.bool false | .y=>.int .u8 0 | .s=>.string ByteArray.empty | .l=>.slice none 0 0
def Ty.by:Ty->Nat | .i=>8 | .b=>1 | .y=>1 | .s=>16 | .l=>24
theorem inf (t:Ty):(Tryz.prog.info? t.e).map (λi=>(i.zero,i.size,i.bytes))=some (some t.zv,1,t.by):=by cases t<;>kernel_rfl
variable {ρ:Operand->Value} {d:Option Nat} {x y:Operand} {t ty t':Nat} {p:String} {af:Array Edge} {g:Option (Nat×Bool)} {m n:Int} {r s:ByteArray} {w:World} {C:Prop} {z:BV} {b:Nat} {G:Nat->Prop} {O:Nat->Option Nat}
theorem ia (τ:Ty) {ad:Addr} {l c:Nat} (hx:ρ x=.slice (some ad) l c) (hy:ρ y=.int .i64 n) (h0:0<=n) (h1:n<(l:Int)):(execOp ρ ⟨d,.indexAddr τ.t x y,ty,p,af,g⟩).run Tryz.prog w=.ok (.value (.pointer (some (ad.add n.toNat)))) w:=by
 cases τ<;>simp [go_sem,execOp,hx,hy,Ty.t,h0,h1]
theorem ln (τ:Ty) {A:Option Addr} {l c:Nat} (hx:ρ x=.slice A l c):(execOp ρ ⟨d,.call { callee:=.builtin .len,args:=#[x],argTypes:=#[τ.t] },ty,p,af,g⟩).run Tryz.prog w=.ok (.value (.int .i64 l)) w:=by
 cases τ<;>simp [go_sem,execOp,hx,Ty.t]
theorem lns (hx:ρ x=.string s):(execOp ρ ⟨d,.call { callee:=.builtin .len,args:=#[x],argTypes:=#[9] },ty,p,af,g⟩).run Tryz.prog w=.ok (.value (.int .i64 s.size)) w:=by
 simp [go_sem,execOp,hx]
theorem bbe {q r:Bool} (hx:ρ x=.bool q) (hy:ρ y=.bool r):(execOp ρ ⟨d,.binOp .eql 4 x y 4,ty,p,af,g⟩).run Tryz.prog w=.ok (.value (.bool (q==r))) w:=by
 simp [go_sem,execOp,hx,hy]
theorem nt {q:Bool} (hx:ρ x=.bool q):(execOp ρ ⟨d,.unOp .not t x,ty,p,af,g⟩).run Tryz.prog w=.ok (.value (.bool !q)) w:=by
 simp [go_sem,execOp,hx]
theorem ng (hx:ρ x=.int .i64 n):(execOp ρ ⟨d,.unOp .neg t x,ty,p,af,g⟩).run Tryz.prog w=.ok (.value (.int .i64 (wrap64 (-n)))) w:=by
 simp [go_sem,execOp,hx,C9]
theorem mm2 (hx:ρ x=.int .i64 m) (hy:ρ y=.int .i64 n):(execOp ρ ⟨d,.call { callee:=.builtin .max,args:=#[x,y],argTypes:=#[3,3] },ty,p,af,g⟩).run Tryz.prog w=.ok (.value (.int .i64 (mx m n))) w:=by
 simp [go_sem,execOp,hx,hy,mx]
theorem cv35 (hx:ρ x=.int .i64 n):(execOp ρ ⟨d,.convert 3 5 x,ty,p,af,g⟩).run Tryz.prog w=.ok (.value (.int .u8 (n % 256))) w:=by
 simp [go_sem,execOp,hx,IntKind.wrap,IntKind.bits,IntKind.signed]
theorem cv53 (hx:ρ x=.int .u8 n) (h0:0<=n/\n<=255):(execOp ρ ⟨d,.convert 5 3 x,ty,p,af,g⟩).run Tryz.prog w=.ok (.value (.int .i64 n)) w:=by
 simp [go_sem,execOp,hx,C9];unfold wrap64;omega
theorem ix (hx:ρ x=.string s) (hy:ρ y=.int .i64 n) (h0:0<=n) (h1:n<(s.size:Int)):(execOp ρ ⟨d,.index 9 x y,ty,p,af,g⟩).run Tryz.prog w=.ok (.value (.int .u8 (bt s n))) w:=by
 simp [go_sem,execOp,hx,hy,h0,h1,bt]
theorem ex {arr:Array Value} {k:Nat} {u:Value} (hx:ρ x=.tuple arr) (h:arr[k]?=some u):(execOp ρ ⟨d,.extract x k,ty,p,af,g⟩).run Tryz.prog w=.ok (.value u) w:=by
 simp [go_sem,execOp,hx,h]
theorem slr (τ:Ty) {A:Option Addr} {l c:Nat} (hx:ρ x=.slice A l c) (hy:ρ y=.int .i64 n) (h0:0<=n) (h1:n<=(l:Int)) (hl:l<=c):(execOp ρ ⟨d,.slice τ.t x (some y) none none,ty,p,af,g⟩).run Tryz.prog w=.ok (.value (.slice (if c=n.toNat then A else A.map (·.add (n.toNat))) (l-n.toNat) (c-n.toNat))) w:=by
 cases τ<;>simp [go_sem,execOp,hx,hy,Ty.t,h0,h1]
theorem sls (hx:ρ x=.string s) (hy:ρ y=.int .i64 n) (h0:0<=n) (h1:n<=(s.size:Int)):(execOp ρ ⟨d,.slice 9 x none (some y) none,ty,p,af,g⟩).run Tryz.prog w=.ok (.value (.string (s.extract 0 n.toNat))) w:=by
 simp [go_sem,execOp,hx,hy,h0,h1]
theorem srs (hx:ρ x=.string s) (hy:ρ y=.int .i64 n) (h0:0<=n) (h1:n<=(s.size:Int)):(execOp ρ ⟨d,.slice 9 x (some y) none none,ty,p,af,g⟩).run Tryz.prog w=.ok (.value (.string (s.extract n.toNat s.size))) w:=by
 simp [go_sem,execOp,hx,hy,h0,h1]
theorem sll (τ:Ty) {A:Option Addr} {l c:Nat} (hx:ρ x=.slice A l c) (hy:ρ y=.int .i64 n) (h0:0<=n) (h1:n<=(l:Int)) (hl:l<=c):(execOp ρ ⟨d,.slice τ.t x none (some y) none,ty,p,af,g⟩).run Tryz.prog w=.ok (.value (.slice A n.toNat c)) w:=by
 have h2:¬ (c:Int)<n:=by omega
 cases τ<;>simp [go_sem,execOp,hx,hy,Ty.t,h0,h1,h2]
theorem bs0 (τ:Ty):(execOp ρ ⟨d,.buildSlice τ.t 0 #[],ty,p,af,g⟩).run Tryz.prog w=.ok (.value (.slice (some ⟨w.heap.size,0,none⟩) 0 0)) (w.alloc (.cells #[] τ.e)):=by
 cases τ<;>simp [go_sem,execOp,Ty.t,Ty.e]
theorem bi1 {n1:Int} (h1:ρ x=.int .i64 n1):(execOp ρ ⟨d,.buildSlice 32 1 #[(0,x)],ty,p,af,g⟩).run Tryz.prog w=.ok (.value (.slice (some ⟨w.heap.size,0,none⟩) 1 1)) (w.alloc (.cells #[.int .i64 n1] 3)):=by
 simp [go_sem,execOp,h1]
theorem bi4 {x1 x2 x3 x4:Operand} {n1 n2 n3 n4:Int} (h1:ρ x1=.int .i64 n1) (h2:ρ x2=.int .i64 n2) (h3:ρ x3=.int .i64 n3) (h4:ρ x4=.int .i64 n4):(execOp ρ ⟨d,.buildSlice 32 4 #[(0,x1),(1,x2),(2,x3),(3,x4)],ty,p,af,g⟩).run Tryz.prog w=.ok (.value (.slice (some ⟨w.heap.size,0,none⟩) 4 4)) (w.alloc (.cells #[.int .i64 n1,.int .i64 n2,.int .i64 n3,.int .i64 n4] 3)):=by
 simp [go_sem,execOp,h1,h2,h3,h4]
theorem bl1 {A:Option Addr} {l c:Nat} (h1:ρ x=.slice A l c):(execOp ρ ⟨d,.buildSlice 75 1 #[(0,x)],ty,p,af,g⟩).run Tryz.prog w=.ok (.value (.slice (some ⟨w.heap.size,0,none⟩) 1 1)) (w.alloc (.cells #[.slice A l c] 32)):=by
 simp [go_sem,execOp,h1]
theorem bt1 (h1:ρ x=.string s):(execOp ρ ⟨d,.buildSlice 36 1 #[(0,x)],ty,p,af,g⟩).run Tryz.prog w=.ok (.value (.slice (some ⟨w.heap.size,0,none⟩) 1 1)) (w.alloc (.cells #[.string s] 9)):=by
 simp [go_sem,execOp,h1]
theorem bi2 {n1 n2:Int} (h1:ρ x=.int .i64 n1) (h2:ρ y=.int .i64 n2):(execOp ρ ⟨d,.buildSlice 32 2 #[(0,x),(1,y)],ty,p,af,g⟩).run Tryz.prog w=.ok (.value (.slice (some ⟨w.heap.size,0,none⟩) 2 2)) (w.alloc (.cells #[.int .i64 n1,.int .i64 n2] 3)):=by
 simp [go_sem,execOp,h1,h2]
theorem bi3 {x3:Operand} {n1 n2 n3:Int} (h1:ρ x=.int .i64 n1) (h2:ρ y=.int .i64 n2) (h3:ρ x3=.int .i64 n3):(execOp ρ ⟨d,.buildSlice 32 3 #[(0,x),(1,y),(2,x3)],ty,p,af,g⟩).run Tryz.prog w=.ok (.value (.slice (some ⟨w.heap.size,0,none⟩) 3 3)) (w.alloc (.cells #[.int .i64 n1,.int .i64 n2,.int .i64 n3] 3)):=by
 simp [go_sem,execOp,h1,h2,h3]
theorem by1 {n1:Int} (h1:ρ x=.int .u8 n1):(execOp ρ ⟨d,.buildSlice 22 1 #[(0,x)],ty,p,af,g⟩).run Tryz.prog w=.ok (.value (.slice (some ⟨w.heap.size,0,none⟩) 1 1)) (w.alloc (.cells #[.int .u8 n1] 5)):=by
 simp [go_sem,execOp,h1]
theorem mm (hx:ρ x=.int .i64 m) (hy:ρ y=.int .i64 n):(execOp ρ ⟨d,.call { callee:=.builtin .min,args:=#[x,y],argTypes:=#[3,3] },ty,p,af,g⟩).run Tryz.prog w=.ok (.value (.int .i64 (mn m n))) w:=by
 simp [go_sem,execOp,hx,hy,mn]
end
section
variable {ρ:Operand->Value} {d:Option Nat} {x y:Operand} {t ty t':Nat} {p:String} {af:Array Edge} {g:Option (Nat×Bool)} {m n:Int} {r s:ByteArray} {w:World} {ok:Nat->Prop}
theorem SP (q:Tq) {s:q.S} {c:List Value} (h:Kd.FK q.k w ok s c):∃ A n,c=[.int .u8 (q.f0 s),.slice A (q.f1 s).length n]/\(q.f1 s).length<=n/\Kd.F q.k w ok A (q.f1 s).length (q.f1 s):=by
 cases q with
 | m=>
  obtain ⟨A1,c1,rfl,h2,_⟩:=MP (Kd.FK_now h)
  exact ⟨A1,c1,rfl,h2,λW' hW=>by
   obtain ⟨A2,c2,e,_,h3⟩:=MP (h W' hW);injection e with e1 e2;injection e2 with e2;cases e2
   exact h3⟩
 | n=>
  obtain ⟨A1,c1,rfl,h2,_⟩:=Lc (Kd.FK_now h)
  exact ⟨A1,c1,rfl,h2,λW' hW=>by
   obtain ⟨A2,c2,e,_,h3⟩:=Lc (h W' hW);injection e with e1 e2;injection e2 with e2;cases e2
   exact h3⟩
theorem Q0 (q:Tq) {s:q.S} {A:Option Addr} {n:Nat} (h1:(q.f1 s).length<=n) (h:Kd.F q.k w ok A (q.f1 s).length (q.f1 s)):Kd.FK q.k w ok s [.int .u8 (q.f0 s),.slice A (q.f1 s).length n]:=by
 cases q with
 | m=>exact λW' hW=>Ul W' s h1 (h W' hW)
 | n=>exact λW' hW=>SO W' s h1 (h W' hW)
theorem szq (q:Tq):q.k.sz=2:=by cases q<;>rfl
theorem rdq (q:Tq) (xs:List q.S) (i:Int):∃ z,q.rd xs i=xs.getD i.toNat z:=by cases q<;>exact ⟨_,rfl⟩
theorem V5 (q:Tq) {A:Option Addr} {xs:List q.S} (h:Kd.F q.k w ok A xs.length xs) (h0:0<=n) (h1:n<(xs.length:Int)):∃ ad,A=some ad/\FV.R w ok (.r q (q.rd xs n)) (.pointer (some (ad.add (n.toNat*2)))):=by
 obtain ⟨z,hz⟩:=rdq q xs n;obtain ⟨ad,cs,rfl,_,hK,hcc,hin⟩:=Kd.F_get h z n h0 h1;rw [<- hz] at hK;obtain ⟨A1,c1,rfl,l1,g1⟩:=SP q hK;rw [szq] at hcc;refine ⟨ad,rfl,_,A1,c1,rfl,?_,hcc 0 _ rfl,?_,l1,g1⟩
 ·rw [show (ad.add (n.toNat*2)).block=ad.block by unfold Addr.add;split<;>rfl];exact hin (by rw [szq];omega)
 ·rw [<- O1 _ _ 1 (by omega)];exact hcc 1 _ rfl
theorem iaq (q:Tq) {ad:Addr} {l c:Nat} (hx:ρ x=.slice (some ad) l c) (hy:ρ y=.int .i64 n) (h0:0<=n) (h1:n<(l:Int)):(execOp ρ ⟨d,.indexAddr q.t x y,ty,p,af,g⟩).run Tryz.prog w=.ok (.value (.pointer (some (ad.add (n.toNat*2))))) w:=by
 cases q<;>simp [go_sem,execOp,hx,hy,Tq.t,h0,h1]
theorem lnq (q:Tq) {A:Option Addr} {l c:Nat} (hx:ρ x=.slice A l c):(execOp ρ ⟨d,.call { callee:=.builtin .len,args:=#[x],argTypes:=#[q.t] },ty,p,af,g⟩).run Tryz.prog w=.ok (.value (.int .i64 l)) w:=by
 cases q<;>simp [go_sem,execOp,hx,Tq.t]
theorem ldq (q:Tq) {ad:Addr} {A:Option Addr} {l c:Nat} {k:Int} (hx:ρ x=.pointer (some ad)) (h0:w.cell? ad=some (.int .u8 k)) (h1:w.cell? ⟨ad.block,ad.off+1,none⟩=some (.slice A l c)):(execOp ρ ⟨d,.load q.e x,ty,p,af,g⟩).run Tryz.prog w=.ok (.value (.agg #[.int .u8 k,.slice A l c])) w:=by
 cases q<;>simp [go_sem,execOp,hx,h0,h1,Tq.e]
theorem fa0 (q:Tq) {ad:Addr} (hx:ρ x=.pointer (some ad)):(execOp ρ ⟨d,.fieldAddr q.e x 0,ty,p,af,g⟩).run Tryz.prog w=.ok (.value (.pointer (some ad))) w:=by
 cases q<;>simp [go_sem,execOp,hx,Tq.e]
theorem fa1 (q:Tq) {ad:Addr} (hx:ρ x=.pointer (some ad)):(execOp ρ ⟨d,.fieldAddr q.e x 1,ty,p,af,g⟩).run Tryz.prog w=.ok (.value (.pointer (some ⟨ad.block,ad.off+1,none⟩))) w:=by
 cases q<;>simp [go_sem,execOp,hx,Tq.e]
theorem ldE {t:Nat} {ad:Addr} {u:Value} (ht:ofE' t=true) (hx:ρ x=.pointer (some ad)) (hc:w.cell? ad=some u):(execOp ρ ⟨d,.load t x,ty,p,af,g⟩).run Tryz.prog w=.ok (.value u) w:=by
 unfold ofE' at ht;split at ht<;>first | (simp [go_sem,execOp,hx,hc];done) | cases ht
theorem bxq (q:Tq) {A:Option Addr} {l c:Nat} {k:Int} (hx:ρ x=.agg #[.int .u8 k,.slice A l c]):(execOp ρ ⟨d,.box q.e x,ty,p,af,g⟩).run Tryz.prog w=.ok (.value (.pointer (some ⟨w.heap.size,0,none⟩))) (w.alloc (.cells #[.int .u8 k,.slice A l c] q.e)):=by
 cases q<;>simp [go_sem,execOp,hx,Tq.e]
theorem alq (q:Tq):(execOp ρ ⟨d,.alloc q.e,ty,p,af,g⟩).run Tryz.prog w=.ok (.value (.pointer (some ⟨w.heap.size,0,none⟩))) (w.alloc (.cells #[.int .u8 0,.slice none 0 0] q.e)):=by
 cases q<;>simp [go_sem,execOp,Tq.e]
theorem bu0 (q:Tq):(execOp ρ ⟨d,.build q.e #[],ty,p,af,g⟩).run Tryz.prog w=.ok (.value (.agg #[.int .u8 0,.slice none 0 0])) w:=by
 cases q<;>simp [go_sem,execOp,Tq.e]
theorem bu2 (q:Tq) {A:Option Addr} {l c:Nat} {k:Int} (hx:ρ x=.int .u8 k) (hy:ρ y=.slice A l c):(execOp ρ ⟨d,.build q.e #[(0,x),(1,y)],ty,p,af,g⟩).run Tryz.prog w=.ok (.value (.agg #[.int .u8 k,.slice A l c])) w:=by
 cases q<;>simp [go_sem,execOp,hx,hy,Tq.e]
theorem bu4 {x1 x2 x3 x4:Operand} {n1 n2 n3 n4:Int} (h1:ρ x1=.int .i64 n1) (h2:ρ x2=.int .i64 n2) (h3:ρ x3=.int .i64 n3) (h4:ρ x4=.int .i64 n4):(execOp ρ ⟨d,.build 102 #[(0,x1),(1,x2),(2,x3),(3,x4)],ty,p,af,g⟩).run Tryz.prog w=.ok (.value (.agg #[.int .i64 n1,.int .i64 n2,.int .i64 n3,.int .i64 n4])) w:=by
 simp [go_sem,execOp,h1,h2,h3,h4]
theorem ixa {xs:List Int} (hl:xs.length=4) (hx:ρ x=.agg (xs.map (Value.int .i64)).toArray) (hy:ρ y=.int .i64 n) (h0:0<=n) (h1:n<(xs.length:Int)):(execOp ρ ⟨d,.index 102 x y,ty,p,af,g⟩).run Tryz.prog w=.ok (.value (.int .i64 (rd xs n))) w:=by
 match xs,hl with
 | [n1,n2,n3,n4],_=>
  have:n=0\/n=1\/n=2\/n=3:=by simp at h1;omega
  have i0:∀ (x0 x1 x2 x3:Value) (w:World),(Instr.index 102 (.agg #[x0,x1,x2,x3]) (.int .i64 0)).run Tryz.prog w=.ok x0 w:=λ_ _ _ _ _=>by kernel_rfl
  have i1:∀ (x0 x1 x2 x3:Value) (w:World),(Instr.index 102 (.agg #[x0,x1,x2,x3]) (.int .i64 1)).run Tryz.prog w=.ok x1 w:=λ_ _ _ _ _=>by kernel_rfl
  have i2:∀ (x0 x1 x2 x3:Value) (w:World),(Instr.index 102 (.agg #[x0,x1,x2,x3]) (.int .i64 2)).run Tryz.prog w=.ok x2 w:=λ_ _ _ _ _=>by kernel_rfl
  have i3:∀ (x0 x1 x2 x3:Value) (w:World),(Instr.index 102 (.agg #[x0,x1,x2,x3]) (.int .i64 3)).run Tryz.prog w=.ok x3 w:=λ_ _ _ _ _=>by kernel_rfl
  rcases this with rfl | rfl | rfl | rfl<;>simp [go_sem,execOp,hx,hy,rd,i0,i1,i2,i3]
theorem slb (hx:ρ x=.string s) {lo:Operand} (hl:ρ lo=.int .i64 m) (hy:ρ y=.int .i64 n) (h0:0<=m) (h1:m<=n) (h2:n<=(s.size:Int)):(execOp ρ ⟨d,.slice 9 x (some lo) (some y) none,ty,p,af,g⟩).run Tryz.prog w=.ok (.value (.string (s.extract m.toNat n.toNat))) w:=by
 have h3:¬ (s.size:Int)<n:=by omega
 have h4:¬ n<m:=by omega
 have h5:0<=n:=by omega
 simp [go_sem,execOp,hx,hl,hy,h0,h1,h2,h3,h4,h5]
theorem bq0 (q:Tq):(execOp ρ ⟨d,.buildSlice q.t 0 #[],ty,p,af,g⟩).run Tryz.prog w=.ok (.value (.slice (some ⟨w.heap.size,0,none⟩) 0 0)) (w.alloc (.cells #[] q.e)):=by
 cases q<;>simp [go_sem,execOp,Tq.t,Tq.e]
theorem bq1 (q:Tq) {A:Option Addr} {l c:Nat} {k:Int} (hx:ρ x=.agg #[.int .u8 k,.slice A l c]):(execOp ρ ⟨d,.buildSlice q.t 1 #[(0,x)],ty,p,af,g⟩).run Tryz.prog w=.ok (.value (.slice (some ⟨w.heap.size,0,none⟩) 1 1)) (w.alloc (.cells #[.int .u8 k,.slice A l c] q.e)):=by
 cases q<;>simp [go_sem,execOp,hx,Tq.t,Tq.e]
theorem bq2 (q:Tq) {A B:Option Addr} {l c l' c':Nat} {k k':Int} (hx:ρ x=.agg #[.int .u8 k,.slice A l c]) (hy:ρ y=.agg #[.int .u8 k',.slice B l' c']):(execOp ρ ⟨d,.buildSlice q.t 2 #[(0,x),(1,y)],ty,p,af,g⟩).run Tryz.prog w=.ok (.value (.slice (some ⟨w.heap.size,0,none⟩) 2 2)) (w.alloc (.cells #[.int .u8 k,.slice A l c,.int .u8 k',.slice B l' c'] q.e)):=by
 cases q<;>simp [go_sem,execOp,hx,hy,Tq.t,Tq.e]
end

end
section
def vv (p:Prop×BV):Option (Prop×AV):=some (p.1,.v p.2)
def ofE (t:Nat):Bool:=ofE' t
def Ii:RV->Option (Prop×AV)
 | .v y=>some (True,.v y)
 | .A j _ _=>some (True,.a j)
 | .W j t xs=>some (True,.w j t xs)
 | .p y=>some (True,.p y)
 | .t _ xs=>bif xs.any BV.own then none else some (True,.t xs)
 | _=>none
def Ky:RV->Option (Prop×AV)
 | .v y=>some (True,.v y)
 | _=>none
def svBin (op:BinOp):RV->RV->Option (Prop×AV)
 | .v (.i m),.v (.i n)=>(bii op m n).bind vv
 | .v (.y m),.v (.y n)=>(byy op m n).bind vv
 | .v (.s m),.v (.s n)=>(bss op m n).bind vv
 | _,_=>none
def svBB:RV->RV->Option (Prop×AV)
 | .v (.b m),.v (.b n)=>some (True,.v (.b (m==n)))
 | _,_=>none
def svUn:UnOp->RV->Option (Prop×AV)
 | .not,.v (.b q)=>some (True,.v (.b !q))
 | .neg,.v (.i n)=>some (True,.v (.i (wrap64 (-n))))
 | _,_=>none
def Oe:Nat->Nat->RV->Option (Prop×AV)
 | 3,5,.v (.i n)=>some (True,.v (.y (n % 256)))
 | 5,3,.v (.y n)=>some (0<=n/\n<=255,.v (.i n))
 | 22,9,r=>match lsOf r with
  | some ⟨.y,xs⟩=>some (True,.v (.s (strOfNums xs)))
  | _=>none
 | _,_,_=>none
def Mi:Nat->RV->RV->Option (Prop×AV)
 | 9,.v (.s s),.v (.i n)=>some (0<=n/\n<(s.size:Int),.v (.y (bt s n)))
 | 102,.v (.h (.ar xs)),.v (.i n)=>bif Nat.beq xs.length 4 then some (0<=n/\n<(xs.length:Int),.v (.i (rd xs n))) else none
 | _,_,_=>none
def elR:(q:Tq)->List q.S->Int->AV
 | .m,xs,n=>.v (.h (.r .m (CH xs n)))
 | .n,xs,n=>.v (.h (.r .n (BO xs n)))
def fldY:(q:Tq)->q.S->AV
 | .m,s=>.p (.y s.f0)
 | .n,s=>.p (.y s.f0)
def fldG:(q:Tq)->q.S->AV
 | .m,s=>.p (.h (.g .m s.f1))
 | .n,s=>.p (.h (.g .n s.f1))
theorem Ue (q:Tq) (xs:List q.S) (n:Int):elR q xs n=.v (.h (.r q (q.rd xs n))):=by cases q<;>rfl
theorem SG (q:Tq) (s:q.S):fldY q s=.p (.y (q.f0 s)):=by cases q<;>rfl
theorem SF (q:Tq) (s:q.S):fldG q s=.p (.h (.g q (q.f1 s))):=by cases q<;>rfl
def Od (t:Nat):RV->RV->Option (Prop×AV)
 | .v (.f τ xs),.v (.i n)=>bif Nat.beq t τ.t then some (0<=n/\n<(xs.length:Int),.p (τ.at xs n)) else none
 | .A j τ xs,.v (.i n)=>bif Nat.beq t τ.t then some (0<=n/\n<(xs.length:Int),.q j n) else none
 | .v (.h (.g q xs)),.v (.i n)=>bif Nat.beq t q.t then some (0<=n/\n<(xs.length:Int),elR q xs n) else none
 | _,_=>none
def Og (t:Nat):RV->Option (Prop×AV)
 | .p y=>bif ofE t then some (True,.v y) else none
 | .q _ τ xs n=>bif ofE t then some (True,.v (τ.at xs n)) else none
 | .v (.h (.r q s))=>bif Nat.beq t q.e then some (True,.v (.h (.k q s))) else none
 | _=>none
def Mh (t f:Nat):RV->Option (Prop×AV)
 | .v (.h (.r q s))=>bif Nat.beq t q.e then (match f with
  | 0=>some (True,fldY q s)
  | 1=>some (True,fldG q s)
  | _=>none) else none
 | _=>none
def Oh:RV->RV->Option (Prop×AV)
 | .v (.h .mp),.v (.s s)=>some (s.size<=9223372036854775807,.v (.i (lkm s)))
 | _,_=>none
def svBox (t:Nat):RV->Option (Prop×AV)
 | .v (.h (.k q s))=>bif Nat.beq t q.e then some (True,.v (.h (.r q s))) else none
 | _=>none
def svNil:RV->Option (Prop×AV)
 | .p y=>some (True,.p y)
 | _=>none
def Mf:Nat->Option (Prop×AV)
 | 96=>some (True,.z .m)
 | 150=>some (True,.z .n)
 | _=>none
def svAgg:Nat->List RV->Option (Prop×AV)
 | 96,[]=>some (True,.v (.h (.k .m ⟨0,[]⟩)))
 | 150,[]=>some (True,.v (.h (.k .n ⟨0,[]⟩)))
 | 150,[.v (.y n),.v (.h (.g .n xs))]=>some (True,.v (.h (.k .n ⟨n,xs⟩)))
 | 102,[.v (.i k),.v (.i l),.v (.i m),.v (.i n)]=>some (True,.v (.h (.ar [k,l,m,n])))
 | _,_=>none
def Mj (t:Nat):RV->Option RV->Option RV->Option (Prop×AV)
 | .v (.f τ xs),none,some (.v (.i n))=>bif Nat.beq t τ.t then some (0<=n/\n<=(xs.length:Int),.v (.f τ (xs.take n.toNat))) else none
 | .v (.f τ xs),some (.v (.i n)),none=>bif Nat.beq t τ.t then some (0<=n/\n<=(xs.length:Int),.v (.f τ (xs.drop n.toNat))) else none
 | .A j τ xs,none,some (.v (.i n))=>bif Nat.beq t τ.t then some (0<=n/\n<=(xs.length:Int),.w j τ (xs.take n.toNat)) else none
 | .A j τ xs,some (.v (.i n)),none=>bif Nat.beq t τ.t then some (0<=n/\n<=(xs.length:Int),.w j τ (xs.drop n.toNat)) else none
 | .v (.s s),none,some (.v (.i n))=>bif Nat.beq t 9 then some (0<=n/\n<=(s.size:Int),.v (.s (s.extract 0 n.toNat))) else none
 | .v (.s s),some (.v (.i m)),some (.v (.i n))=>bif Nat.beq t 9 then some (0<=m/\m<=n/\n<=(s.size:Int),.v (.s (s.extract m.toNat n.toNat))) else none
 | .v (.s s),some (.v (.i n)),none=>bif Nat.beq t 9 then some (0<=n/\n<=(s.size:Int),.v (.s (s.extract n.toNat s.size))) else none
 | _,_,_=>none
def Jn (k:Nat):RV->Option (Prop×AV)
 | .t _ xs=>match xs[k]? with
  | some y=>bif y.own then none else some (True,.v y)
  | none=>none
 | _=>none
def Of (t:Nat):Option LV->Option (Prop×AV)
 | some ⟨τ,xs⟩=>bif Nat.beq t τ.t then some (True,.v (.i xs.length)) else none
 | none=>none
def svLen (t:Nat):RV->Option (Prop×AV)
 | .v (.s s)=>bif Nat.beq t 9 then some (True,.v (.i s.size)) else none
 | .v (.h (.g q xs))=>bif Nat.beq t q.t then some (True,.v (.i xs.length)) else none
 | r=>Of t (lsOf r)
def svMM (f:Int->Int->Int):RV->RV->Option (Prop×AV)
 | .v (.i m),.v (.i n)=>some (True,.v (.i (f m n)))
 | _,_=>none
def Mg:Nat->List RV->Option (Prop×AV)
 | 32,[]=>some (True,.v (.o .i []))
 | 130,[]=>some (True,.v (.o .b []))
 | 22,[]=>some (True,.v (.o .y []))
 | 36,[]=>some (True,.v (.o .s []))
 | 75,[]=>some (True,.v (.o .l []))
 | 32,[.v (.i m)]=>some (True,.v (.o .i [m]))
 | 32,[.v (.i m),.v (.i n)]=>some (True,.v (.o .i [m,n]))
 | 32,[.v (.i m),.v (.i n),.v (.i k)]=>some (True,.v (.o .i [m,n,k]))
 | 32,[.v (.i m),.v (.i n),.v (.i k),.v (.i l)]=>some (True,.v (.o .i [m,n,k,l]))
 | 22,[.v (.y m)]=>some (True,.v (.o .y [m]))
 | 36,[.v (.s m)]=>some (True,.v (.o .s [m]))
 | 75,[.v (.f .i m)]=>some (True,.v (.o .l [m]))
 | 148,[]=>some (True,.v (.h (.g .n [])))
 | 148,[.v (.h (.k .n s))]=>some (True,.v (.h (.g .n [s])))
 | 148,[.v (.h (.k .n s)),.v (.h (.k .n r))]=>some (True,.v (.h (.g .n [s,r])))
 | _,_=>none
def Oi:Nat->RV->RV->Option (Prop×AV)
 | 130,.v (.i m),.v (.i n)=>some (m=n/\0<=n/\n.toNat<=281474976710656,.v (.o .b (List.replicate n.toNat false)))
 | 32,.v (.i m),.v (.i n)=>some (m=n/\0<=n/\n.toNat<=35184372088832,.v (.o .i (List.replicate n.toNat 0)))
 | 22,.v (.i m),.v (.i n)=>some (m=n/\0<=n/\n.toNat<=281474976710656,.v (.o .y (List.replicate n.toNat 0)))
 | _,_,_=>none
def svB:Builtin->List RV->List Nat->Option (Prop×AV)
 | .len,[x],[t]=>svLen t x
 | .max,[x,y],[3,3]=>svMM mx x y
 | .min,[x,y],[3,3]=>svMM mn x y
 | _,_,_=>none
def FH:Nat->List (Nat×Operand)->Option (List Operand)
 | _,[]=>some []
 | i,(j,x)::r=>bif Nat.beq i j then (FH (i+1) r).bind λl=>some (x::l) else none
def sv (r:Operand->RV):Op->Option (Prop×AV)
 | .move x=>Ii (r x)
 | .assign x=>Ky (r x)
 | .binOp .eql 4 x y 4=>svBB (r x) (r y)
 | .binOp op _ x y _=>svBin op (r x) (r y)
 | .unOp op _ x=>svUn op (r x)
 | .convert s t x=>Oe s t (r x)
 | .index t x y=>Mi t (r x) (r y)
 | .indexAddr t x y=>Od t (r x) (r y)
 | .load t x=>Og t (r x)
 | .slice t x lo hi none=>Mj t (r x) (lo.map r) (hi.map r)
 | .extract x k=>Jn k (r x)
 | .call { callee:=.builtin bi,args,argTypes }=>svB bi (args.toList.map r) argTypes.toList
 | .buildSlice t n parts=>match FH 0 parts.toList with
  | some l=>bif Nat.beq n l.length then Mg t (l.map r) else none
  | none=>none
 | .makeSlice t x y=>Oi t (r x) (r y)
 | .lookup 67 x y false=>Oh (r x) (r y)
 | .fieldAddr t x f=>Mh t f (r x)
 | .box t x=>svBox t (r x)
 | .alloc t=>Mf t
 | .nilCheck x=>svNil (r x)
 | .build t parts=>match FH 0 parts.toList with
  | some l=>svAgg t (l.map r)
  | none=>none
 | _=>none

end
section
def rvr (b:Nat) (G:Nat->Prop) (O:Nat->Option Nat) (w:World) (tm:Nat->Value):RV->Value->Prop
 | .n,_=>True
 | .v x,v=>x.own=false/\bvr b G O w 0 x v
 | .A j t xs,v=>v=tm j/\Kd.N t.d t.e w b (λk=>O j=some k\/fr G O k) v xs/\v.ownBlock=O j
 | .W j t xs,v=>Kd.V t.d t.e w b (λk=>O j=some k\/fr G O k) v xs
 | .p x,v=>x.own=false/\∃ ad u,v=.pointer (some ad)/\w.cell? ad=some u/\fr G O ad.block/\bvr b G O w 0 x u
 | .q j t xs n,v=>0<=n/\n<(xs.length:Int)/\Kd.N t.d t.e w b (λk=>O j=some k\/fr G O k) (tm j) xs/\(tm j).ownBlock=O j/\∃ g cap,tm j=.slice (some ⟨g,0,none⟩) xs.length cap/\v=.pointer (some ⟨g,n.toNat,none⟩)
 | .t i xs,v=>∃ arr:Array Value,v=.tuple arr/\arr.size=xs.length/\∀ (k:Nat) (x:BV),xs[k]?=some x->∃ u,arr[k]?=some u/\bvr b G O w i x u
 | .z i q,v=>∃ g,O i=some g/\v=.pointer (some ⟨g,0,none⟩)/\w.heap[g]?=some (.cells #[.int .u8 0,.slice none 0 0] q.e (0,0))/\b<=g
def BV.scal:BV->Bool | .h _=>false | .f _ _=>false | .o _ _=>false | _=>true
def tupOk:List BV->Bool
 | []=>true
 | x::l=>if x.own then l.all BV.scal else if x.scal then tupOk l else !l.any BV.own
theorem KE:∀ {l:List BV},(∀ x∈l,x.own=false)->tupOk l=true
 | [],_=>rfl
 | x::l,h=>by
  unfold tupOk;rw [if_neg (by rw [h x (by simp)];exact Bool.false_ne_true)];split
  ·exact KE λy hy=>h y (by simp [hy])
  ·have:l.any BV.own=false:=List.any_eq_false.2 λy hy=>by rw [h y (by simp [hy])];exact Bool.false_ne_true
   rw [this];rfl
theorem Lu:∀ {l:List BV},tupOk l=true->(∀ x∈l,x.own=false)\/∃ (k0:Nat) (x0:BV),l[k0]?=some x0/\x0.own=true/\∀ (k:Nat) (x:BV),l[k]?=some x->k≠k0->x.scal=true
 | [],_=>.inl (by simp)
 | x::l,h=>by
  unfold tupOk at h;split at h
  ·rename_i hx;refine .inr ⟨0,x,rfl,hx,λk y hy hk=>?_⟩;rcases k with _ | k
   ·exact absurd rfl hk
   ·exact List.all_eq_true.1 h y (List.mem_of_getElem? hy)
  ·rename_i hx;have hx':x.own=false:=by simpa using hx
   split at h
   ·rename_i hs;rcases Lu h with h1 | ⟨k0,x0,h1,h2,h3⟩
    ·exact .inl λy hy=>(Wy.1 hy).elim (λe=>by rw [e];exact hx') (h1 y)
    ·refine .inr ⟨k0+1,x0,h1,h2,λk y hy hk=>?_⟩;rcases k with _ | k
     ·cases hy;exact hs
     ·exact h3 k y hy (λe=>hk (by rw [e]))
   ·refine .inl λy hy=>(Wy.1 hy).elim (λe=>by rw [e];exact hx') (λhy=>?_)
    cases ho:y.own with
    | false=>rfl
    | true=>rw [List.any_eq_true.2 ⟨y,hy,ho⟩] at h;cases h
def nvr (b:Nat) (G:Nat->Prop) (O:Nat->Option Nat) (w w':World) (t:Ty) (xs:List t.A) (v:Value):Prop:=
 Kd.N t.d t.e w' b (fr G O) v xs/\∀ k,v.ownBlock=some k->w.heap.size<=k
def ovr (b:Nat) (G:Nat->Prop) (O:Nat->Option Nat) (σ:St) (w w':World) (tm:Nat->Value):AV->Value->Prop
 | .v (.o t xs),v=>nvr b G O w w' t xs v
 | .t xs,v=>tupOk xs=true/\∃ arr:Array Value,v=.tuple arr/\arr.size=xs.length/\∀ (k:Nat) (x:BV),xs[k]?=some x->∃ u,arr[k]?=some u/\(x.own=false->bvr b G O w' 0 x u)/\∀ t ys,x=.o t ys->nvr b G O w w' t ys u
 | .z q,v=>∃ g,w.heap.size<=g/\v=.pointer (some ⟨g,0,none⟩)/\w'.heap[g]?=some (.cells #[.int .u8 0,.slice none 0 0] q.e (0,0))
 | x,v=>avr b G O σ w' tm 0 x v
section
variable {a:Act} {d:Option Nat} {x y:Operand} {t ty t':Nat} {p:String} {af:Array Edge} {g:Option (Nat×Bool)} {m n:Int} {r s:ByteArray} {w w':World} {C:Prop} {z:AV} {b:Nat} {G:Nat->Prop} {O:Nat->Option Nat} {σ:St} {tm:Nat->Value} {v:Value} {i j:Nat}
theorem Gm {x:BV} (h:x.own=false) (hv:bvr b G O w i x v):bvr b G O w j x v:=by
 cases x<;>first | exact hv | cases h
theorem CP (H:RO b G O σ (λj=>a.tmps.getD j undef) w) (x:Operand):rvr b G O w (λj=>a.tmps.getD j undef) (rs σ x) (a.eval x):=by
 cases x with
 | tmp t=>
  show rvr b G O w _ (match look σ t with | some x=>rsV σ t x | none=>.n) (a.tmps.getD t undef);have ho:∀ (j:Nat) (τ:Ty) (xs:List τ.A),look σ j=some (.v (.o τ xs))->Kd.N τ.d τ.e w b (λk=>O j=some k\/fr G O k) (a.tmps.getD j undef) xs/\(a.tmps.getD j undef).ownBlock=O j:=λj τ xs h=>H.val j _ h
  cases hl:look σ t with
  | none=>trivial
  | some z=>
   have hz:=H.val t z hl;show rvr b G O w _ (rsV σ t z) (a.tmps.getD t undef)
   cases z with
   | v z=>
    cases z with
    | o τ xs=>exact ⟨rfl,hz⟩
    | _=>exact ⟨rfl,Gm (i:=t) rfl hz⟩
   | a j=>
    obtain ⟨h1,τ,xs,h2⟩:=hz;simp only [rsV,rsO,h2];have:=ho j τ xs h2
    exact ⟨h1,by rw [h1];exact this.1,by rw [h1];exact this.2⟩
   | w j τ xs=>exact hz.1
   | p z=>
    obtain ⟨h1,ad,u,h2,h3,h4,h5⟩:=hz
    exact ⟨h1,ad,u,h2,h3,h4,Gm (i:=t) h1 h5⟩
   | q j n=>
    obtain ⟨τ,xs,g,cap,h1,h2,h3,h4,h5⟩:=hz;simp only [rsV,rsO,h1]
    exact ⟨h2,h3,(ho j τ xs h1).1,(ho j τ xs h1).2,g,cap,h4,h5⟩
   | t xs=>exact hz
   | z q=>exact hz
 | const c=>
  show rvr b G O w _ (rsC c) c
  cases c with
  | int k n=>cases k<;>first | exact ⟨rfl,rfl⟩ | trivial
  | bool q=>exact ⟨rfl,rfl⟩
  | string s=>exact ⟨rfl,rfl⟩
  | _=>trivial
 | global g=>trivial
 | func f=>trivial
theorem VC {r:RV} {τ:Ty} {xs:List τ.A} (h:lsOf r=some ⟨τ,xs⟩) (hr:rvr b G O w tm r v):Kd.V τ.d τ.e w b (λ_=>True) v xs:=by
 cases r with
 | v x=>
  cases x with
  | f t ys=>
   simp only [lsOf,AT] at h;cases h
   exact Kd.V_mono (e:=τ.e) (base:=b) hr.2 (λ_ _=>trivial)
  | _=>cases h
 | A j t ys=>
  simp only [lsOf,AT] at h;cases h
  exact Kd.V_mono (e:=τ.e) (base:=b) (Kd.N_V hr.2.1) (λ_ _=>trivial)
 | W j t ys=>
  simp only [lsOf,AT] at h;cases h
  exact Kd.V_mono (e:=τ.e) (base:=b) hr (λ_ _=>trivial)
 | _=>cases h
end

end
section
def Ty.z:(t:Ty)->t.A | .i=>0 | .b=>false | .y=>0 | .s=>ByteArray.empty | .l=>[]
section
variable {a:Act} {d:Option Nat} {x y:Operand} {t ty t':Nat} {p:String} {af:Array Edge} {g:Option (Nat×Bool)} {m n:Int} {r s:ByteArray} {w w':World} {C:Prop} {z:AV} {b:Nat} {G:Nat->Prop} {O:Nat->Option Nat} {σ:St} {tm:Nat->Value} {v:Value} {i j:Nat}
@[simp] theorem Ty.sz1 (τ:Ty):τ.d.sz=1:=by cases τ<;>rfl
theorem Qj (τ:Ty) (xs:List τ.A) (n:Int):(τ.at xs n).own=false:=by cases τ<;>rfl
theorem Oz (τ:Ty) {xs:List τ.A} {c:List Value} (h:Kd.FK τ.d w (fr G O) (xs.getD n.toNat τ.z) c):∃ u,c=[u]/\bvr b G O w i (τ.at xs n) u:=by
 cases τ with
 | l=>
  obtain ⟨A,k,rfl,hl,hf⟩:=Kd.FK_slice_open h
  exact ⟨_,rfl,A,k,rfl,hl,hf⟩
 | _=>exact ⟨_,Kd.FK_now h,rfl⟩
theorem V4 {τ:Ty} {xs:List τ.A} (h:Kd.V τ.d τ.e w b (fr G O) v xs) (h0:0<=n) (h1:n<(xs.length:Int)):∃ ad l c,v=.slice (some ad) l c/\l=xs.length/\∃ u,w.cell? (ad.add n.toNat)=some u/\fr G O (ad.add n.toNat).block/\bvr b G O w i (τ.at xs n) u:=by
 obtain ⟨A,c,rfl,hl,hf⟩:=h;obtain ⟨ad,cs,rfl,hcl,hK,hcc,hin⟩:=Kd.F_get hf τ.z n h0 h1;obtain ⟨u,rfl,hu⟩:=Oz (b:=b) (i:=i) τ hK;refine ⟨ad,_,c,rfl,rfl,u,?_,?_,hu⟩
 ·have:=hcc 0 u rfl
  rwa [τ.sz1,Nat.mul_one,Nat.add_zero] at this
 ·rw [show (ad.add n.toNat).block=ad.block by unfold Addr.add;split<;>rfl];exact hin (by rw [τ.sz1];exact Nat.one_pos)
theorem Vd {τ:Ty} {xs:List τ.A} (h:Kd.N τ.d τ.e w b (λk=>O j=some k\/fr G O k) v xs) (ho:v.ownBlock=O j) (h0:0<=n) (h1:n<(xs.length:Int)):∃ g cap,v=.slice (some ⟨g,0,none⟩) xs.length cap/\∃ u,w.cell? ⟨g,n.toNat,none⟩=some u/\bvr b G O w i (τ.at xs n) u:=by
 obtain ⟨g,cap,rfl,_⟩:=Kd.N_form h (by omega);obtain ⟨c,hcl,hK,hcc⟩:=Kd.N_get h τ.z n h0 h1;obtain ⟨u,rfl,hu⟩:=Oz (b:=b) (i:=i) τ (Kd.FK_mono hK (λk hk=>hk.1.resolve_left (λhe=>hk.2 (he.symm.trans ho.symm))));refine ⟨g,cap,rfl,u,?_,hu⟩;have:=hcc 0 u rfl
 rwa [τ.sz1,Nat.mul_one,Nat.add_zero,G8] at this
theorem ON {x:BV} (h:x.own=false) (hv:bvr b G O w' 0 x v):ovr b G O σ w w' tm (.v x) v:=by
 cases x<;>first | exact hv | cases h
end

end
section
section
variable {a:Act} {d:Option Nat} {x y:Operand} {t ty t':Nat} {p:String} {af:Array Edge} {g:Option (Nat×Bool)} {m n:Int} {r s:ByteArray} {w w':World} {C:Prop} {z:AV} {b:Nat} {G:Nat->Prop} {O:Nat->Option Nat} {σ:St} {tm:Nat->Value} {v:Value} {i j:Nat}
theorem JD {f:(ty:Ty)->List ty.A->RV} {r:RV} (h:rsO σ j f=r):r=.n\/∃ τ xs,look σ j=some (.v (.o τ xs))/\r=f τ xs:=by
 unfold rsO at h;split at h
 ·rename_i τ xs hl;exact .inr ⟨τ,xs,hl,h.symm⟩
 ·exact .inl h.symm
theorem Th {k:Nat} {τ:Ty} {xs:List τ.A} (h:rs σ x=.A k τ xs):look σ k=some (.v (.o τ xs)):=by
 cases x with
 | tmp t=>
  simp only [rs] at h
  cases hl:look σ t with
  | none=>simp [hl] at h
  | some z=>
   simp only [hl] at h
   cases z with
   | v z=>
    cases z with
    | o τ xs=>simp only [rsV] at h;cases h;exact hl
    | _=>simp [rsV] at h
   | a j=>
    simp only [rsV] at h;rcases JD h with h1 | ⟨τ',xs',h1,h2⟩
    ·cases h1
    ·cases h2;exact h1
   | q j n=>
    simp only [rsV] at h;rcases JD h with h1 | ⟨τ',xs',h1,h2⟩
    ·cases h1
    ·cases h2
   | _=>simp [rsV] at h
 | const c=>simp only [rs] at h;cases c<;>simp [rsC] at h<;>(rename_i k _;cases k<;>simp at h)
 | _=>simp [rs] at h
theorem UD (H:RO b G O σ tm w) {k:Nat} {τ:Ty} {xs:List τ.A} (h:rs σ x=.W k τ xs):∃ τ ys,look σ k=some (.v (.o τ ys)):=by
 cases x with
 | tmp t=>
  simp only [rs] at h
  cases hl:look σ t with
  | none=>simp [hl] at h
  | some z=>
   simp only [hl] at h
   cases z with
   | w j τ' xs'=>
    simp only [rsV,RV.W.injEq] at h;obtain ⟨rfl,rfl,h⟩:=h
    exact (H.val t _ hl).2
   | v z=>cases z<;>simp [rsV] at h
   | a j=>rcases JD (σ:=σ) (j:=j) (f:=.A j) rfl with h1 | ⟨τ,xs,h1,h2⟩<;>simp_all [rsV]
   | q j n=>rcases JD (σ:=σ) (j:=j) (f:=λty xs=>.q j ty xs n) rfl with h1 | ⟨τ,xs,h1,h2⟩<;>simp_all [rsV]
   | _=>simp [rsV] at h
 | const c=>simp only [rs] at h;cases c<;>simp [rsC] at h<;>(rename_i k _;cases k<;>simp at h)
 | _=>simp [rs] at h
end

end
section
section
variable {a:Act} {d:Option Nat} {x y:Operand} {t ty t':Nat} {p:String} {af:Array Edge} {g:Option (Nat×Bool)} {m n:Int} {w:World} {C:Prop} {z:AV} {b:Nat} {G:Nat->Prop} {O:Nat->Option Nat} {σ:St} {v:Value} {i j:Nat}
structure Out (b:Nat) (G:Nat->Prop) (O:Nat->Option Nat) (σ:St) (w:World) (a:Act) (o:Oper) (z:AV):Prop where
 out:∀ (K:Act->World->Prop) (Q:Exit->Act->World->Prop),(∀ v w',Below w.heap.size w w'->ovr b G O σ w w' (λj=>a.tmps.getD j undef) z v->K (a.put o.dst v) w')->Oper.wp Tryz.prog o a w K Q
theorem Out.of {o:Oper} {w':World} (h:(execOp a.eval o).run Tryz.prog w=.ok (.value v) w') (hb:Below w.heap.size w w') (hv:ovr b G O σ w w' (λj=>a.tmps.getD j undef) z v):Out b G O σ w a o z:=⟨λK Q hK=>by
 unfold Oper.wp;rw [h]
 exact hK v w' hb hv⟩
theorem Out.same {o:Oper} (h:(execOp a.eval o).run Tryz.prog w=.ok (.value v) w) (hv:ovr b G O σ w w (λj=>a.tmps.getD j undef) z v):Out b G O σ w a o z:=.of h (WG _ _) hv
theorem Out.val {o:Oper} {q:BV} (h:(execOp a.eval o).run Tryz.prog w=.ok (.value v) w) (hq:q.own=false) (hv:bvr b G O w 0 q v):Out b G O σ w a o (.v q):=.same h (ON hq hv)
variable (H:RO b G O σ (λj=>a.tmps.getD j undef) w)
include H
theorem S9 (h:svNil (rs σ x)=some (C,z)):Out b G O σ w a ⟨d,.nilCheck x,ty,p,af,g⟩ z:=by
 have hr:=CP H x
 cases hx:rs σ x with
 | p q=>
  rw [hx] at h hr;simp only [svNil,AT,If] at h;obtain ⟨rfl,rfl⟩:=h;obtain ⟨h1,ad,u,h2,h3⟩:=hr
  exact Out.same (v:=a.eval x) (by simp [execOp,h2]) ⟨h1,ad,u,h2,h3⟩
 | _=>rw [hx] at h;cases h
theorem Rc (h:Ii (rs σ x)=some (C,z)):Out b G O σ w a ⟨d,.move x,ty,p,af,g⟩ z:=by
 have hr:=CP H x;refine Out.same (v:=a.eval x) rfl ?_
 cases hx:rs σ x with
 | v q=>
  rw [hx] at h hr;simp only [Ii,AT,If] at h;obtain ⟨rfl,rfl⟩:=h
  exact ON hr.1 hr.2
 | A k τ xs=>
  have h2:=Th hx;rw [hx] at h hr;simp only [Ii,AT,If] at h;obtain ⟨rfl,rfl⟩:=h
  exact ⟨hr.1,τ,xs,h2⟩
 | W k τ xs=>
  have h2:=UD H hx;rw [hx] at h hr;simp only [Ii,AT,If] at h;obtain ⟨rfl,rfl⟩:=h
  exact ⟨hr,h2⟩
 | p q=>
  rw [hx] at h hr;simp only [Ii,AT,If] at h;obtain ⟨rfl,rfl⟩:=h
  exact hr
 | t k xs=>
  rw [hx] at h hr;simp only [Ii] at h
  cases ho:xs.any BV.own with
  | true=>simp [ho] at h
  | false=>
   simp only [ho,cond_false,AT,If] at h;obtain ⟨rfl,rfl⟩:=h;obtain ⟨arr,h1,h2,h3⟩:=hr
   have hn:∀ x∈xs,x.own=false:=λx hx=>by
    cases hq:x.own with
    | false=>rfl
    | true=>rw [List.any_eq_true.2 ⟨x,hx,hq⟩] at ho;cases ho
   refine ⟨KE hn,arr,h1,h2,λk x hx=>?_⟩
   ·obtain ⟨u,hu,hv⟩:=h3 k x hx;have:=hn x (List.mem_of_getElem? hx)
    exact ⟨u,hu,λ_=>Gm this hv,λt ys he=>by rw [he] at this;cases this⟩
 | _=>rw [hx] at h;cases h
theorem Nx (h:Ky (rs σ x)=some (C,z)):Out b G O σ w a ⟨d,.assign x,ty,p,af,g⟩ z:=by
 have hr:=CP H x;refine Out.same (v:=a.eval x) rfl ?_
 cases hx:rs σ x with
 | v q=>
  rw [hx] at h hr;simp only [Ky,AT,If] at h;obtain ⟨rfl,rfl⟩:=h
  exact ON hr.1 hr.2
 | _=>rw [hx] at h;cases h
theorem Sk {op:BinOp} (h:svBin op (rs σ x) (rs σ y)=some (C,z)) (hC:C):Out b G O σ w a ⟨d,.binOp op t x y t',ty,p,af,g⟩ z:=by
 have hr:=CP H x;have hs:=CP H y;unfold svBin at h;split at h
 ·rename_i m n hx hy;rw [hx] at hr;rw [hy] at hs;obtain ⟨⟨C',q⟩,hb,hz⟩:=By.1 h;simp only [vv,AT,If] at hz;obtain ⟨rfl,rfl⟩:=hz;obtain ⟨v,h1,h2,h3⟩:=Sj (ρ:=a.eval) (w:=w) (b:=b) hr.2 hs.2 hb hC;exact .val h1 h2 (h3 _ _ _)
 ·rename_i m n hx hy;rw [hx] at hr;rw [hy] at hs;obtain ⟨⟨C',q⟩,hb,hz⟩:=By.1 h;simp only [vv,AT,If] at hz;obtain ⟨rfl,rfl⟩:=hz;obtain ⟨v,h1,h2,h3⟩:=So (ρ:=a.eval) (w:=w) (b:=b) hr.2 hs.2 hb hC;exact .val h1 h2 (h3 _ _ _)
 ·rename_i m n hx hy;rw [hx] at hr;rw [hy] at hs;obtain ⟨⟨C',q⟩,hb,hz⟩:=By.1 h;simp only [vv,AT,If] at hz;obtain ⟨rfl,rfl⟩:=hz;obtain ⟨v,h1,h2,h3⟩:=Sm (ρ:=a.eval) (w:=w) (b:=b) hr.2 hs.2 hb hC;exact .val h1 h2 (h3 _ _ _)
 ·cases h
theorem T9 (h:svBB (rs σ x) (rs σ y)=some (C,z)):Out b G O σ w a ⟨d,.binOp .eql 4 x y 4,ty,p,af,g⟩ z:=by
 have hr:=CP H x;have hs:=CP H y;unfold svBB at h;split at h
 ·rename_i m n hx hy;rw [hx] at hr;rw [hy] at hs;obtain ⟨rfl,rfl⟩:=In (AS h);exact .val (bbe hr.2 hs.2) rfl rfl
 ·cases h
theorem Q3 (h:Oh (rs σ x) (rs σ y)=some (C,z)) (hC:C):Out b G O σ w a ⟨d,.lookup 67 x y false,ty,p,af,g⟩ z:=by
 have hr:=CP H x;have hs:=CP H y;unfold Oh at h;split at h
 ·rename_i s hx hy;rw [hx] at hr;rw [hy] at hs;obtain ⟨rfl,rfl⟩:=In (AS h);obtain ⟨gm,h1,h2,h3,h4⟩:=hr.2;refine .val (v:=.int .i64 (lkm s)) ?_ rfl rfl;show ((do pure (.value (<- Instr.lookup 67 (a.eval x) (a.eval y) false)):Sem Next)).run Tryz.prog w=_;have e:a.eval y=.string s:=hs.2;rw [e];simp only [Sem.run_bind,h4 w rfl s hC,Result.andThen];rfl
 ·cases h
theorem UR {op:UnOp} (h:svUn op (rs σ x)=some (C,z)):Out b G O σ w a ⟨d,.unOp op t x,ty,p,af,g⟩ z:=by
 have hr:=CP H x;unfold svUn at h;split at h
 ·rename_i q hx;rw [hx] at hr;obtain ⟨rfl,rfl⟩:=In (AS h);exact .val (nt hr.2) rfl rfl
 ·rename_i q hx;rw [hx] at hr;obtain ⟨rfl,rfl⟩:=In (AS h);exact .val (ng hr.2) rfl rfl
 ·cases h
theorem MU {τ:Ty} {xs:List τ.A} (h:lsOf (rs σ x)=some ⟨τ,xs⟩):∃ A c,a.eval x=.slice A xs.length c/\xs.length<=c/\τ.d.C w A xs.length xs:=by
 obtain ⟨A,c,h1,h2,h3⟩:=VC h (CP H x);exact ⟨A,c,h1,h2,Kd.F_now h3⟩
theorem Qq {s t:Nat} (h:Oe s t (rs σ x)=some (C,z)) (hC:C):Out b G O σ w a ⟨d,.convert s t x,ty,p,af,g⟩ z:=by
 have hr:=CP H x;unfold Oe at h;split at h
 ·rename_i q hx;rw [hx] at hr;obtain ⟨rfl,rfl⟩:=In (AS h);exact Out.val (v:=.int .u8 (_ % 256)) (cv35 hr.2) rfl rfl
 ·rename_i q hx;rw [hx] at hr;obtain ⟨rfl,rfl⟩:=In (AS h);exact Out.val (v:=.int .i64 _) (cv53 hr.2 hC) rfl rfl
 ·split at h
  ·rename_i xs hl;obtain ⟨rfl,rfl⟩:=In (AS h);obtain ⟨A,c,h1,h2,h3⟩:=MU H hl;refine .val (v:=.string (strOfNums xs)) ?_ rfl rfl;show ((do pure (.value (<- convert 22 9 (a.eval x))):Sem Next)).run Tryz.prog w=_;rw [h1];simp only [Sem.run_bind,Kd.C_string (P:=Tryz.prog) (src:=22) (dst:=9) (e:=5) (by kernel_rfl) (by kernel_rfl) (by kernel_rfl) h3,Result.andThen];rfl
  ·cases h
 ·cases h
theorem Pt {t:Nat} (h:Mi t (rs σ x) (rs σ y)=some (C,z)) (hC:C):Out b G O σ w a ⟨d,.index t x y,ty,p,af,g⟩ z:=by
 have hr:=CP H x;have hs:=CP H y;unfold Mi at h;split at h
 ·rename_i s n hx hy;rw [hx] at hr;rw [hy] at hs;obtain ⟨rfl,rfl⟩:=In (AS h);exact .val (ix hr.2 hs.2 hC.1 hC.2) rfl rfl
 ·rename_i xs n hx hy;rw [hx] at hr;rw [hy] at hs
  cases ht:Nat.beq xs.length 4 with
  | false=>simp [ht] at h
  | true=>
   rw [ht] at h;obtain ⟨rfl,rfl⟩:=In (AS h);exact .val (ixa (Nat.eq_of_beq_eq_true ht) hr.2 hs.2 hC.1 hC.2) rfl rfl
 ·cases h
theorem Qh {t:Nat} (h:Od t (rs σ x) (rs σ y)=some (C,z)) (hC:C):Out b G O σ w a ⟨d,.indexAddr t x y,ty,p,af,g⟩ z:=by
 have hr:=CP H x;have hs:=CP H y;unfold Od at h;split at h
 ·rename_i τ xs n hx hy;rw [hx] at hr;rw [hy] at hs
  cases ht:Nat.beq t τ.t with
  | false=>simp [ht] at h
  | true=>
   rw [ht] at h;obtain ⟨rfl,rfl⟩:=In (AS h);obtain rfl:=Nat.eq_of_beq_eq_true ht;obtain ⟨ad,l,c,h1,rfl,u,h2,h3,h4⟩:=V4 (i:=0) hr.2 hC.1 hC.2;exact .same (ia τ h1 hs.2 hC.1 hC.2) ⟨Qj _ _ _,_,u,rfl,h2,h3,h4⟩
 ·rename_i j τ xs n hx hy;have ho:=Th hx;rw [hx] at hr;rw [hy] at hs
  cases ht:Nat.beq t τ.t with
  | false=>simp [ht] at h
  | true=>
   rw [ht] at h;obtain ⟨rfl,rfl⟩:=In (AS h);obtain rfl:=Nat.eq_of_beq_eq_true ht;obtain ⟨g',cap,h1,u,h2,_⟩:=Vd (i:=0) hr.2.1 hr.2.2 hC.1 hC.2;have:=ia (ρ:=a.eval) (d:=d) (ty:=ty) (p:=p) (af:=af) (g:=g) (w:=w) τ h1 hs.2 hC.1 hC.2;rw [G8] at this;exact .same this ⟨τ,xs,g',cap,ho,hC.1,hC.2,hr.1.symm.trans h1,rfl⟩
 ·rename_i q xs n hx hy;rw [hx] at hr;rw [hy] at hs
  cases ht:Nat.beq t q.t with
  | false=>simp [ht] at h
  | true=>
   rw [ht] at h;obtain ⟨rfl,rfl⟩:=In (AS h);obtain rfl:=Nat.eq_of_beq_eq_true ht;obtain ⟨A,c,h1,h2,h3⟩:=hr.2;obtain ⟨ad,rfl,h4⟩:=V5 q h3 hC.1 hC.2;rw [Ue];exact .val (iaq q h1 hs.2 hC.1 hC.2) rfl h4
 ·cases h
end

end
section
section
variable {a:Act} {d:Option Nat} {x y:Operand} {t ty t':Nat} {p:String} {af:Array Edge} {g:Option (Nat×Bool)} {m n:Int} {w:World} {C:Prop} {z:AV} {b:Nat} {G:Nat->Prop} {O:Nat->Option Nat} {σ:St} {v:Value} {i j:Nat}
variable (H:RO b G O σ (λj=>a.tmps.getD j undef) w)
include H
theorem Q1 {t:Nat} (h:Og t (rs σ x)=some (C,z)):Out b G O σ w a ⟨d,.load t x,ty,p,af,g⟩ z:=by
 have hr:=CP H x
 have hE:∀ {C':Prop} {z':AV},(bif ofE t then some (C',z') else none)=some (C,z)->ofE t=true:=λh=>by
  cases ht:ofE t with
  | false=>rw [ht] at h;cases h
  | true=>rfl
 ·unfold Og at h;split at h
  ·rename_i q hx;have ht:=hE h;rw [hx] at hr;rw [ht] at h;obtain ⟨rfl,rfl⟩:=In (AS h);obtain ⟨h1,ad,u,h2,h3,h4,h5⟩:=hr;exact .val (ldE ht h2 h3) h1 h5
  ·rename_i j τ xs n hx;have ht:=hE h;rw [hx] at hr;rw [ht] at h;obtain ⟨rfl,rfl⟩:=In (AS h);obtain ⟨h1,h2,h3,h4,g',cap,h5,h6⟩:=hr;obtain ⟨g2,cap2,k1,u,k2,k3⟩:=Vd (i:=0) h3 h4 h1 h2;rw [h5] at k1;simp only [Value.slice.injEq,AT,Addr.mk.injEq,and_true,true_and] at k1;obtain ⟨rfl,_⟩:=k1;exact .val (ldE ht h6 k2) (Qj _ _ _) k3
  ·rename_i q s hx;rw [hx] at hr
   cases ht:Nat.beq t q.e with
   | false=>simp [ht] at h
   | true=>
    rw [ht] at h;obtain ⟨rfl,rfl⟩:=In (AS h);obtain rfl:=Nat.eq_of_beq_eq_true ht;obtain ⟨ad,A,c,h1,h2,h3,h4,h5,h6⟩:=hr.2;exact .val (ldq q h1 h3 h4) rfl ⟨A,c,rfl,h5,h6⟩
  ·cases h
theorem Pj {t f:Nat} (h:Mh t f (rs σ x)=some (C,z)):Out b G O σ w a ⟨d,.fieldAddr t x f,ty,p,af,g⟩ z:=by
 have hr:=CP H x;unfold Mh at h;split at h
 ·rename_i q s hx;rw [hx] at hr
  cases ht:Nat.beq t q.e with
  | false=>simp [ht] at h
  | true=>
   rw [ht] at h;obtain rfl:=Nat.eq_of_beq_eq_true ht;obtain ⟨ad,A,c,h1,h2,h3,h4,h5,h6⟩:=hr.2;simp only [cond_true] at h;split at h
   ·obtain ⟨rfl,rfl⟩:=In (AS h);rw [SG];exact .same (fa0 q h1) ⟨rfl,_,_,rfl,h3,h2,rfl⟩
   ·obtain ⟨rfl,rfl⟩:=In (AS h);rw [SF];exact .same (fa1 q h1) ⟨rfl,_,_,rfl,h4,h2,A,c,rfl,h5,h6⟩
   ·cases h
 ·cases h
theorem PQ {t:Nat} {lo hi:Option Operand} (h:Mj t (rs σ x) (lo.map (rs σ)) (hi.map (rs σ))=some (C,z)) (hC:C):Out b G O σ w a ⟨d,.slice t x lo hi none,ty,p,af,g⟩ z:=by
 have hr:=CP H x
 have V_cut:∀ {τ:Ty} {xs:List τ.A} {ok:Nat->Prop} {A:Option Addr} {c k:Nat},Kd.F τ.d w ok A xs.length xs->xs.length<=c->k<=xs.length->Kd.V τ.d τ.e w b ok (.slice (if c=k then A else A.map (·.add k)) (xs.length-k) (c-k)) (xs.drop k):=by
  intro τ xs ok A c k hf hl hk;have h1:=Kd.F_cut hf hk hl;rw [τ.sz1,Nat.mul_one] at h1;have h2:=Kd.V_mk (e:=τ.e) (base:=b) (c:=c-k) (by rw [No];omega) h1
  rwa [No] at h2
 have V_take:∀ {τ:Ty} {xs:List τ.A} {ok:Nat->Prop} {A:Option Addr} {c k:Nat},Kd.F τ.d w ok A xs.length xs->xs.length<=c->k<=xs.length->Kd.V τ.d τ.e w b ok (.slice A k c) (xs.take k):=by
  intro τ xs ok A c k hf hl hk;have h2:=Kd.V_mk (e:=τ.e) (base:=b) (c:=c) (by rw [IT];omega) (Kd.F_take hf hk)
  rwa [IT,Nat.min_eq_left hk] at h2
 unfold Mj at h;split at h
 ·rename_i τ xs n hx hlo hhi;rw [hx] at hr;obtain rfl:lo=none:=by cases lo<;>first | rfl | simp at hlo
  obtain ⟨y,rfl,hy⟩:=Option.map_eq_some_iff.1 hhi;have hs:=CP H y;rw [hy] at hs
  cases ht:Nat.beq t τ.t with
  | false=>simp [ht] at h
  | true=>
   rw [ht] at h;obtain ⟨rfl,rfl⟩:=In (AS h);obtain rfl:=Nat.eq_of_beq_eq_true ht;obtain ⟨A,c,h1,h2,h3⟩:=hr.2;exact .val (sll τ h1 hs.2 hC.1 hC.2 h2) rfl (V_take h3 h2 (by have:=hC.1;have:=hC.2;omega))
 ·rename_i τ xs n hx hlo hhi;rw [hx] at hr;obtain rfl:hi=none:=by cases hi<;>first | rfl | simp at hhi
  obtain ⟨y,rfl,hy⟩:=Option.map_eq_some_iff.1 hlo;have hs:=CP H y;rw [hy] at hs
  cases ht:Nat.beq t τ.t with
  | false=>simp [ht] at h
  | true=>
   rw [ht] at h;obtain ⟨rfl,rfl⟩:=In (AS h);obtain rfl:=Nat.eq_of_beq_eq_true ht;obtain ⟨A,c,h1,h2,h3⟩:=hr.2;exact .val (slr τ h1 hs.2 hC.1 hC.2 h2) rfl (V_cut h3 h2 (by have:=hC.1;have:=hC.2;omega))
 ·rename_i j τ xs n hx hlo hhi;have ho:=Th hx;rw [hx] at hr;obtain rfl:lo=none:=by cases lo<;>first | rfl | simp at hlo
  obtain ⟨y,rfl,hy⟩:=Option.map_eq_some_iff.1 hhi;have hs:=CP H y;rw [hy] at hs
  cases ht:Nat.beq t τ.t with
  | false=>simp [ht] at h
  | true=>
   rw [ht] at h;obtain ⟨rfl,rfl⟩:=In (AS h);obtain rfl:=Nat.eq_of_beq_eq_true ht;obtain ⟨A,c,h1,h2,h3⟩:=Kd.N_V (base':=b) hr.2.1;exact .same (sll τ h1 hs.2 hC.1 hC.2 h2) ⟨V_take h3 h2 (by have:=hC.1;have:=hC.2;omega),τ,xs,ho⟩
 ·rename_i j τ xs n hx hlo hhi;have ho:=Th hx;rw [hx] at hr;obtain rfl:hi=none:=by cases hi<;>first | rfl | simp at hhi
  obtain ⟨y,rfl,hy⟩:=Option.map_eq_some_iff.1 hlo;have hs:=CP H y;rw [hy] at hs
  cases ht:Nat.beq t τ.t with
  | false=>simp [ht] at h
  | true=>
   rw [ht] at h;obtain ⟨rfl,rfl⟩:=In (AS h);obtain rfl:=Nat.eq_of_beq_eq_true ht;obtain ⟨A,c,h1,h2,h3⟩:=Kd.N_V (base':=b) hr.2.1;exact .same (slr τ h1 hs.2 hC.1 hC.2 h2) ⟨V_cut h3 h2 (by have:=hC.1;have:=hC.2;omega),τ,xs,ho⟩
 ·rename_i s n hx hlo hhi;rw [hx] at hr;obtain rfl:lo=none:=by cases lo<;>first | rfl | simp at hlo
  obtain ⟨y,rfl,hy⟩:=Option.map_eq_some_iff.1 hhi;have hs:=CP H y;rw [hy] at hs
  cases ht:Nat.beq t 9 with
  | false=>simp [ht] at h
  | true=>
   rw [ht] at h;obtain ⟨rfl,rfl⟩:=In (AS h);obtain rfl:=Nat.eq_of_beq_eq_true ht;exact .val (sls hr.2 hs.2 hC.1 hC.2) rfl rfl
 ·rename_i s m n hx hlo hhi;rw [hx] at hr;obtain ⟨y,rfl,hy⟩:=Option.map_eq_some_iff.1 hhi;obtain ⟨y2,rfl,hy2⟩:=Option.map_eq_some_iff.1 hlo;have hs:=CP H y;rw [hy] at hs;have hs2:=CP H y2;rw [hy2] at hs2
  cases ht:Nat.beq t 9 with
  | false=>simp [ht] at h
  | true=>
   rw [ht] at h;obtain ⟨rfl,rfl⟩:=In (AS h);obtain rfl:=Nat.eq_of_beq_eq_true ht;exact .val (slb hr.2 hs2.2 hs.2 hC.1 hC.2.1 hC.2.2) rfl rfl
 ·rename_i s n hx hlo hhi;rw [hx] at hr;obtain rfl:hi=none:=by cases hi<;>first | rfl | simp at hhi
  obtain ⟨y,rfl,hy⟩:=Option.map_eq_some_iff.1 hlo;have hs:=CP H y;rw [hy] at hs
  cases ht:Nat.beq t 9 with
  | false=>simp [ht] at h
  | true=>
   rw [ht] at h;obtain ⟨rfl,rfl⟩:=In (AS h);obtain rfl:=Nat.eq_of_beq_eq_true ht;exact .val (srs hr.2 hs.2 hC.1 hC.2) rfl rfl
 ·cases h
theorem ME {k:Nat} (h:Jn k (rs σ x)=some (C,z)):Out b G O σ w a ⟨d,.extract x k,ty,p,af,g⟩ z:=by
 have hr:=CP H x;unfold Jn at h;split at h
 ·rename_i i xs hx;rw [hx] at hr;split at h
  ·rename_i q hq
   cases ho:q.own with
   | true=>simp [ho] at h
   | false=>
    rw [ho] at h;obtain ⟨rfl,rfl⟩:=In (AS h);obtain ⟨arr,h1,h2,h3⟩:=hr;obtain ⟨u,hu,hv⟩:=h3 k _ hq;exact .val (ex h1 hu) ho (Gm ho hv)
  ·cases h
 ·cases h
theorem SS {args:Array Operand} {ats:Array Nat} {t:Nat} (ha:args.toList=[x]) (hat:ats.toList=[t]) (h:svLen t (rs σ x)=some (C,z)):Out b G O σ w a ⟨d,.call { callee:=.builtin .len,args:=args,argTypes:=ats },ty,p,af,g⟩ z:=by
 have hr:=CP H x;obtain rfl:args=#[x]:=by rw [<- Array.toArray_toList (xs:=args),ha]
 obtain rfl:ats=#[t]:=by rw [<- Array.toArray_toList (xs:=ats),hat]
 unfold svLen at h;split at h
 ·rename_i s hx;rw [hx] at hr
  cases ht:Nat.beq t 9 with
  | false=>simp [ht] at h
  | true=>
   rw [ht] at h;obtain ⟨rfl,rfl⟩:=In (AS h);obtain rfl:=Nat.eq_of_beq_eq_true ht;exact .val (lns hr.2) rfl rfl
 ·rename_i q xs hx;rw [hx] at hr
  cases ht:Nat.beq t q.t with
  | false=>simp [ht] at h
  | true=>
   rw [ht] at h;obtain ⟨rfl,rfl⟩:=In (AS h);obtain rfl:=Nat.eq_of_beq_eq_true ht;obtain ⟨A,c,h1,_⟩:=hr.2;exact .val (lnq q h1) rfl rfl
 ·cases hl:lsOf (rs σ x) with
  | none=>simp [hl,Of] at h
  | some lv=>
   obtain ⟨τ,xs⟩:=lv;simp only [hl,Of] at h
   cases ht:Nat.beq t τ.t with
   | false=>simp [ht] at h
   | true=>
    rw [ht] at h;obtain ⟨rfl,rfl⟩:=In (AS h);obtain rfl:=Nat.eq_of_beq_eq_true ht;obtain ⟨A,c,h1,_⟩:=MU H hl;exact .val (ln τ h1) rfl rfl
theorem S6 {args:Array Operand} {ats:Array Nat} (ha:args.toList=[x,y]) (hat:ats.toList=[3,3]) (h:svMM mx (rs σ x) (rs σ y)=some (C,z)):Out b G O σ w a ⟨d,.call { callee:=.builtin .max,args:=args,argTypes:=ats },ty,p,af,g⟩ z:=by
 have hr:=CP H x;have hs:=CP H y;obtain rfl:args=#[x,y]:=by rw [<- Array.toArray_toList (xs:=args),ha]
 obtain rfl:ats=#[3,3]:=by rw [<- Array.toArray_toList (xs:=ats),hat]
 unfold svMM at h;split at h
 ·rename_i m n hx hy;rw [hx] at hr;rw [hy] at hs;obtain ⟨rfl,rfl⟩:=In (AS h);exact .val (mm2 hr.2 hs.2) rfl rfl
 ·cases h
theorem S7 {args:Array Operand} {ats:Array Nat} (ha:args.toList=[x,y]) (hat:ats.toList=[3,3]) (h:svMM mn (rs σ x) (rs σ y)=some (C,z)):Out b G O σ w a ⟨d,.call { callee:=.builtin .min,args:=args,argTypes:=ats },ty,p,af,g⟩ z:=by
 have hr:=CP H x;have hs:=CP H y;obtain rfl:args=#[x,y]:=by rw [<- Array.toArray_toList (xs:=args),ha]
 obtain rfl:ats=#[3,3]:=by rw [<- Array.toArray_toList (xs:=ats),hat]
 unfold svMM at h;split at h
 ·rename_i m n hx hy;rw [hx] at hr;rw [hy] at hs;obtain ⟨rfl,rfl⟩:=In (AS h);exact .val (mm hr.2 hs.2) rfl rfl
 ·cases h
end

end
section
section
variable {a:Act} {d:Option Nat} {x y:Operand} {t ty t':Nat} {p:String} {af:Array Edge} {g:Option (Nat×Bool)} {m n:Int} {w:World} {C:Prop} {z:AV} {b:Nat} {G:Nat->Prop} {O:Nat->Option Nat} {σ:St} {v:Value} {i j:Nat}
theorem FS (H:RO b G O σ (λj=>a.tmps.getD j undef) w) (hG:∀ k,b<=k->G k) (hb:b<=w.heap.size):fr G O w.heap.size:=⟨hG _ hb,λj he=>by have:=H.old j _ he;omega⟩
theorem nlit (τ:Ty) (xs:List τ.A) (vs:List Value) (hl:vs.length=xs.length) (h1:∀ u∈vs,u.oneCell'=true) (hf:∀ (j:Nat) (x:τ.A) (u:Value),xs[j]?=some x->vs[j]?=some u->Kd.FK τ.d w (fr G O) x [u])
  (hb:b<=w.heap.size) (hfr:fr G O w.heap.size) (hm:xs.length<=maxLen):nvr b G O w (w.alloc (.cells vs.toArray τ.e)) τ xs (.slice (some ⟨w.heap.size,0,none⟩) xs.length xs.length):=by
 refine ⟨Kd.N_made (W:=w) (rows:=vs.map λu=>[u]) (okp:=fr G O) ⟨λk hk=>?_,vs,?_,?_⟩ (World.grownBy_alloc w _ none) ⟨w.heap.size,by simp [Value.ownBlock],Wn _⟩ (by simp [hl]) (λj x c hx hc=>?_) (λ_ h=>h) hfr,λk hk=>?_⟩
 ·have:w.heap.size=k:=by simpa [Value.ownBlock] using hk
  exact this.symm
 ·have h2:=World.ownsRow_lit (base:=b) (e:=τ.e) (size:=1) w vs.toArray xs.length hb hm (by simp [hl]);simpa [hl,τ.sz1,Kd.raw] using h2
 ·refine ⟨by simp [τ.sz1,Kd.raw],λj q hq=>?_⟩;rw [List.getElem?_map] at hq;obtain ⟨u,hu,rfl⟩:=Option.map_eq_some_iff.1 hq;have h2:=(List.getElem?_eq_some_iff.1 hu).1
  have h3:(vs.drop (j*(Kd.raw τ.d.sz).sz)).take (Kd.raw τ.d.sz).sz=[u]:=by
   show (vs.drop (j*τ.d.sz)).take τ.d.sz=[u];rw [τ.sz1,Nat.mul_one,Wl h2,List.take_succ_cons,WE,(List.getElem?_eq_some_iff.1 hu).2]
  rw [h3];exact ⟨rfl,by simp [τ.sz1],λq hq=>by rw [Wx.1 hq];exact h1 u (List.mem_of_getElem? hu)⟩
 ·rw [List.getElem?_map] at hc;obtain ⟨u,hu,rfl⟩:=Option.map_eq_some_iff.1 hc;exact hf j x u hx hu
 ·have:w.heap.size=k:=by simpa [Value.ownBlock] using hk
  omega
theorem qlit (q:Tq) (xs:List q.S) (cs:List (List Value)) (vs:List Value) (hl:cs.length=xs.length) (hv:vs.length=xs.length*2) (hs:∀ (j:Nat) (c:List Value),cs[j]?=some c->(vs.drop (j*2)).take 2=c) (hf:∀ (j:Nat) (x:q.S) (c:List Value),xs[j]?=some x->cs[j]?=some c->Kd.FK q.k w (fr G O) x c)
  (hb:b<=w.heap.size) (hfr:fr G O w.heap.size) (hm:xs.length<=maxLen):FV.R (w.alloc (.cells vs.toArray q.e)) (fr G O) (.g q xs) (.slice (some ⟨w.heap.size,0,none⟩) xs.length xs.length):=by
 have hN:Kd.N q.k q.e (w.alloc (.cells vs.toArray q.e)) b (fr G O) (.slice (some ⟨w.heap.size,0,none⟩) xs.length xs.length) xs:=by
  refine Kd.N_made (W:=w) (rows:=cs) (okp:=fr G O) ⟨λk hk=>?_,vs,?_,?_⟩ (World.grownBy_alloc w _ none) ⟨w.heap.size,by simp [Value.ownBlock],Wn _⟩ (by simp [hl]) hf (λ_ h=>h) hfr
  ·have:w.heap.size=k:=by simpa [Value.ownBlock] using hk
   exact this.symm
  ·have h2:=World.ownsRow_lit (base:=b) (e:=q.e) (size:=2) w vs.toArray xs.length hb hm (by simp [hv]);simpa [hl,szq,Kd.raw] using h2
  ·refine ⟨by simp [szq,Kd.raw,hl,hv],λj c hc=>?_⟩
   have h3:(vs.drop (j*(Kd.raw q.k.sz).sz)).take (Kd.raw q.k.sz).sz=c:=by
    show (vs.drop (j*q.k.sz)).take q.k.sz=c;rw [szq];exact hs j c hc
   rw [h3];have hj:j<xs.length:=by rw [<- hl];exact (List.getElem?_eq_some_iff.1 hc).1
   have h4:=Kd.FK_raw (hf j xs[j] c (WH hj) hc);exact ⟨rfl,h4.2.1,h4.2.2⟩
 exact ⟨_,_,rfl,Wn _,Kd.N_F hN⟩
end

end
section
set_option linter.unusedSectionVars false
section
variable {a:Act} {d:Option Nat} {x y:Operand} {t ty t':Nat} {p:String} {af:Array Edge} {g:Option (Nat×Bool)} {m n:Int} {w:World} {C:Prop} {z:AV} {b:Nat} {G:Nat->Prop} {O:Nat->Option Nat} {σ:St} {v:Value} {i j:Nat}
theorem GY:∀ (l:List (Nat×Operand)) (i:Nat) (r:List Operand),FH i l=some r->l=(r.zipIdx i).map λe=>(e.2,e.1)
 | [],_,_,h=>by cases h;rfl
 | (j,x)::l,i,r,h=>by
  unfold FH at h
  cases hb:Nat.beq i j with
  | false=>simp [hb] at h
  | true=>
   rw [hb] at h;obtain ⟨r',h1,h2⟩:=By.1 h;cases h2;obtain rfl:=Nat.eq_of_beq_eq_true hb;rw [GY l (i+1) r' h1];rfl
variable (H:RO b G O σ (λj=>a.tmps.getD j undef) w) (hG:∀ k,b<=k->G k) (hb:b<=w.heap.size)
include H hG hb
theorem Out.lit {o:Oper} (τ:Ty) (xs:List τ.A) (vs:List Value) (n:Nat) (hn:n=xs.length) (hl:vs.length=xs.length) (h1:∀ u∈vs,u.oneCell'=true) (hf:∀ (j:Nat) (x:τ.A) (u:Value),xs[j]?=some x->vs[j]?=some u->Kd.FK τ.d w (fr G O) x [u]) (hm:xs.length<=4)
  (hrun:(execOp a.eval o).run Tryz.prog w=.ok (.value (.slice (some ⟨w.heap.size,0,none⟩) n n)) (w.alloc (.cells vs.toArray τ.e))):Out b G O σ w a o (.v (.o τ xs)):=by
 subst hn;exact .of hrun (Ad (WG _ _) _) (nlit τ xs vs hl h1 hf hb (FS H hG hb) (by unfold maxLen;omega))
theorem Out.lit1 {α:Type} {o:Oper} (τ:Ty) (enc:τ.A->Value) (xs:List τ.A) (n:Nat) (hn:n=xs.length) (h1:∀ x,(enc x).oneCell'=true) (hf:∀ x,Kd.FK τ.d w (fr G O) x [enc x]) (hm:xs.length<=4)
  (hrun:(execOp a.eval o).run Tryz.prog w=.ok (.value (.slice (some ⟨w.heap.size,0,none⟩) n n)) (w.alloc (.cells (xs.map enc).toArray τ.e))):Out b G O σ w a o (.v (.o τ xs)):=by
 refine .lit H hG hb τ xs (xs.map enc) n hn (by simp) (λu hu=>?_) (λj x u hx hu=>?_) hm hrun
 ·obtain ⟨x,_,rfl⟩:=List.mem_map.1 hu;exact h1 x
 ·rw [List.getElem?_map,hx] at hu;cases hu;exact hf x
theorem O6 {t n:Nat} {parts:Array (Nat×Operand)} {l:List Operand} (hp:FH 0 parts.toList=some l) (hn:n=l.length) (h:Mg t (l.map (rs σ))=some (C,z)):Out b G O σ w a ⟨d,.buildSlice t n parts,ty,p,af,g⟩ z:=by
 obtain rfl:parts=((l.zipIdx 0).map λe=>(e.2,e.1)).toArray:=by rw [<- GY _ _ _ hp]
 subst hn;have hr:=λx=>CP H x
 have L0:∀ τ:Ty,l.map (rs σ)=[]->Out b G O σ w a ⟨d,.buildSlice τ.t l.length ((l.zipIdx 0).map λe=>(e.2,e.1)).toArray,ty,p,af,g⟩ (.v (.o τ [])):=by
  intro τ hl;obtain rfl:=List.map_eq_nil_iff.1 hl;exact .lit H hG hb τ [] [] 0 rfl rfl (by simp) (by simp) (WC _) (bs0 τ)
 have hi:∀ x:Int,Kd.FK (Ty.d .i) w (fr G O) x [.int .i64 x]:=λx _ _=>rfl;unfold Mg at h;split at h
 ·rename_i hl;obtain ⟨rfl,rfl⟩:=In (AS h);exact L0 .i hl
 ·rename_i hl;obtain ⟨rfl,rfl⟩:=In (AS h);exact L0 .b hl
 ·rename_i hl;obtain ⟨rfl,rfl⟩:=In (AS h);exact L0 .y hl
 ·rename_i hl;obtain ⟨rfl,rfl⟩:=In (AS h);exact L0 .s hl
 ·rename_i hl;obtain ⟨rfl,rfl⟩:=In (AS h);exact L0 .l hl
 ·rename_i m hl;obtain ⟨rfl,rfl⟩:=In (AS h);obtain ⟨x1,l1,rfl,h1,hl⟩:=List.map_eq_cons_iff.1 hl;obtain rfl:=List.map_eq_nil_iff.1 hl;have k1:=hr x1;rw [h1] at k1;exact .lit1 H hG hb (α:=Int) .i (Value.int .i64) [m] 1 rfl (λ_=>rfl) hi (by simp) (bi1 k1.2)
 ·rename_i m n hl;obtain ⟨rfl,rfl⟩:=In (AS h);obtain ⟨x1,l1,rfl,h1,hl⟩:=List.map_eq_cons_iff.1 hl;obtain ⟨x2,l2,rfl,h2,hl⟩:=List.map_eq_cons_iff.1 hl;obtain rfl:=List.map_eq_nil_iff.1 hl;have k1:=hr x1;rw [h1] at k1;have k2:=hr x2;rw [h2] at k2;exact .lit1 H hG hb (α:=Int) .i (Value.int .i64) [m,n] 2 rfl (λ_=>rfl) hi (by simp) (bi2 k1.2 k2.2)
 ·rename_i m n k hl;obtain ⟨rfl,rfl⟩:=In (AS h);obtain ⟨x1,l1,rfl,h1,hl⟩:=List.map_eq_cons_iff.1 hl;obtain ⟨x2,l2,rfl,h2,hl⟩:=List.map_eq_cons_iff.1 hl;obtain ⟨x3,l3,rfl,h3,hl⟩:=List.map_eq_cons_iff.1 hl;obtain rfl:=List.map_eq_nil_iff.1 hl;have k1:=hr x1;rw [h1] at k1;have k2:=hr x2;rw [h2] at k2;have k3:=hr x3;rw [h3] at k3;exact .lit1 H hG hb (α:=Int) .i (Value.int .i64) [m,n,k] 3 rfl (λ_=>rfl) hi (by simp) (bi3 k1.2 k2.2 k3.2)
 ·rename_i m n k q hl;obtain ⟨rfl,rfl⟩:=In (AS h);obtain ⟨x1,l1,rfl,h1,hl⟩:=List.map_eq_cons_iff.1 hl;obtain ⟨x2,l2,rfl,h2,hl⟩:=List.map_eq_cons_iff.1 hl;obtain ⟨x3,l3,rfl,h3,hl⟩:=List.map_eq_cons_iff.1 hl;obtain ⟨x4,l4,rfl,h4,hl⟩:=List.map_eq_cons_iff.1 hl;obtain rfl:=List.map_eq_nil_iff.1 hl;have k1:=hr x1;rw [h1] at k1;have k2:=hr x2;rw [h2] at k2;have k3:=hr x3;rw [h3] at k3;have k4:=hr x4;rw [h4] at k4;exact .lit1 H hG hb (α:=Int) .i (Value.int .i64) [m,n,k,q] 4 rfl (λ_=>rfl) hi (by simp) (bi4 k1.2 k2.2 k3.2 k4.2)
 ·rename_i m hl;obtain ⟨rfl,rfl⟩:=In (AS h);obtain ⟨x1,l1,rfl,h1,hl⟩:=List.map_eq_cons_iff.1 hl;obtain rfl:=List.map_eq_nil_iff.1 hl;have k1:=hr x1;rw [h1] at k1;exact .lit1 H hG hb (α:=Int) .y (Value.int .u8) [m] 1 rfl (λ_=>rfl) (λx _ _=>rfl) (by simp) (by1 k1.2)
 ·rename_i m hl;obtain ⟨rfl,rfl⟩:=In (AS h);obtain ⟨x1,l1,rfl,h1,hl⟩:=List.map_eq_cons_iff.1 hl;obtain rfl:=List.map_eq_nil_iff.1 hl;have k1:=hr x1;rw [h1] at k1;exact .lit1 H hG hb (α:=ByteArray) .s Value.string [m] 1 rfl (λ_=>rfl) (λx _ _=>rfl) (by simp) (bt1 k1.2)
 ·rename_i m hl;obtain ⟨rfl,rfl⟩:=In (AS h);obtain ⟨x1,l1,rfl,h1,hl⟩:=List.map_eq_cons_iff.1 hl;obtain rfl:=List.map_eq_nil_iff.1 hl;have k1:=hr x1;rw [h1] at k1;obtain ⟨A,c,e1,e2,e3⟩:=k1.2;refine .lit H hG hb .l [m] [.slice A m.length c] 1 rfl rfl (λu hu=>by rw [Wx.1 hu];rfl) (λj x u hx hu=>?_) (by simp) (bl1 e1);rcases j with _ | j
  ·simp only [List.getElem?_cons_zero,AT] at hx hu;subst hx;subst hu;exact Kd.FK_slice_mk e2 e3
  ·simp at hx
 ·rename_i hl;obtain ⟨rfl,rfl⟩:=In (AS h);obtain rfl:=List.map_eq_nil_iff.1 hl;exact .of (bq0 .n) (Ad (WG _ _) _) (qlit .n [] [] [] rfl rfl (by simp) (by simp) hb (FS H hG hb) (WC _))
 ·rename_i s hl;obtain ⟨rfl,rfl⟩:=In (AS h);obtain ⟨x1,l1,rfl,h1,hl⟩:=List.map_eq_cons_iff.1 hl;obtain rfl:=List.map_eq_nil_iff.1 hl;have k1:=hr x1;rw [h1] at k1;obtain ⟨A,c,e1,e2,e3⟩:=k1.2;refine .of (bq1 .n e1) (Ad (WG _ _) _) (qlit .n [s] [[.int .u8 (Tq.n.f0 s),.slice A (Tq.n.f1 s).length c]] [.int .u8 (Tq.n.f0 s),.slice A (Tq.n.f1 s).length c] rfl rfl (λj c hc=>?_) (λj x c hx hc=>?_) hb (FS H hG hb) (by simp [maxLen]))
  ·rcases j with _ | j
   ·simp only [List.getElem?_cons_zero,AT] at hc;subst hc;rfl
   ·simp at hc
  ·rcases j with _ | j
   ·simp only [List.getElem?_cons_zero,AT] at hx hc;subst hx;subst hc;exact Q0 .n e2 e3
   ·simp at hx
 ·rename_i s r hl;obtain ⟨rfl,rfl⟩:=In (AS h);obtain ⟨x1,l1,rfl,h1,hl⟩:=List.map_eq_cons_iff.1 hl;obtain ⟨x2,l2,rfl,h2,hl⟩:=List.map_eq_cons_iff.1 hl;obtain rfl:=List.map_eq_nil_iff.1 hl;have k1:=hr x1;rw [h1] at k1;have k2:=hr x2;rw [h2] at k2;obtain ⟨A,c,e1,e2,e3⟩:=k1.2;obtain ⟨B,c',g1,g2,g3⟩:=k2.2;refine .of (bq2 .n e1 g1) (Ad (WG _ _) _) (qlit .n [s,r] [[.int .u8 (Tq.n.f0 s),.slice A (Tq.n.f1 s).length c],[.int .u8 (Tq.n.f0 r),.slice B (Tq.n.f1 r).length c']] [.int .u8 (Tq.n.f0 s),.slice A (Tq.n.f1 s).length c,.int .u8 (Tq.n.f0 r),.slice B (Tq.n.f1 r).length c'] rfl rfl (λj c hc=>?_) (λj x c hx hc=>?_) hb (FS H hG hb) (by simp [maxLen]))
  ·rcases j with _ | _ | j
   ·simp only [List.getElem?_cons_zero,AT] at hc;subst hc;rfl
   ·simp only [List.getElem?_cons_succ,List.getElem?_cons_zero,AT] at hc;subst hc;rfl
   ·simp at hc
  ·rcases j with _ | _ | j
   ·simp only [List.getElem?_cons_zero,AT] at hx hc;subst hx;subst hc;exact Q0 .n e2 e3
   ·simp only [List.getElem?_cons_succ,List.getElem?_cons_zero,AT] at hx hc;subst hx;subst hc;exact Q0 .n g2 g3
   ·simp at hx
 ·cases h
theorem Sl {t:Nat} {x:Operand} (h:svBox t (rs σ x)=some (C,z)):Out b G O σ w a ⟨d,.box t x,ty,p,af,g⟩ z:=by
 have hr:=CP H x;unfold svBox at h;split at h
 ·rename_i q s hx;rw [hx] at hr
  cases ht:Nat.beq t q.e with
  | false=>simp [ht] at h
  | true=>
   rw [ht] at h;obtain ⟨rfl,rfl⟩:=In (AS h);obtain rfl:=Nat.eq_of_beq_eq_true ht;obtain ⟨A,c,h1,h2,h3⟩:=hr.2;have hB:=JN w (.cells #[.int .u8 (q.f0 s),.slice A (q.f1 s).length c] q.e);exact .of (bxq q h1) (Ad (WG _ _) _) ⟨_,A,c,rfl,FS H hG hb,(Ak hB 0).trans rfl,(Ak hB 1).trans rfl,h2,Kd.F_alloc h3 _⟩
 ·cases h
theorem O2 {t:Nat} (h:Mf t=some (C,z)):Out b G O σ w a ⟨d,.alloc t,ty,p,af,g⟩ z:=by
 unfold Mf at h;split at h
 ·obtain ⟨rfl,rfl⟩:=In (AS h);exact .of (alq .m) (Ad (WG _ _) _) ⟨_,Wn _,rfl,JN w _⟩
 ·obtain ⟨rfl,rfl⟩:=In (AS h);exact .of (alq .n) (Ad (WG _ _) _) ⟨_,Wn _,rfl,JN w _⟩
 ·cases h
theorem Se {t:Nat} {parts:Array (Nat×Operand)} {l:List Operand} (hp:FH 0 parts.toList=some l) (h:svAgg t (l.map (rs σ))=some (C,z)):Out b G O σ w a ⟨d,.build t parts,ty,p,af,g⟩ z:=by
 obtain rfl:parts=((l.zipIdx 0).map λe=>(e.2,e.1)).toArray:=by rw [<- GY _ _ _ hp]
 have hr:=λx=>CP H x;unfold svAgg at h;split at h
 ·rename_i hl;obtain ⟨rfl,rfl⟩:=In (AS h);obtain rfl:=List.map_eq_nil_iff.1 hl;exact .val (bu0 .m) rfl ⟨none,0,rfl,Wn _,Kd.F_nil _ _ _⟩
 ·rename_i hl;obtain ⟨rfl,rfl⟩:=In (AS h);obtain rfl:=List.map_eq_nil_iff.1 hl;exact .val (bu0 .n) rfl ⟨none,0,rfl,Wn _,Kd.F_nil _ _ _⟩
 ·rename_i n xs hl;obtain ⟨rfl,rfl⟩:=In (AS h);obtain ⟨x1,l1,rfl,h1,hl⟩:=List.map_eq_cons_iff.1 hl;obtain ⟨x2,l2,rfl,h2,hl⟩:=List.map_eq_cons_iff.1 hl;obtain rfl:=List.map_eq_nil_iff.1 hl;have k1:=hr x1;rw [h1] at k1;have k2:=hr x2;rw [h2] at k2;obtain ⟨A,c,e1,e2,e3⟩:=k2.2;exact .val (bu2 .n k1.2 e1) rfl ⟨A,c,rfl,e2,e3⟩
 ·rename_i m n k q hl;obtain ⟨rfl,rfl⟩:=In (AS h);obtain ⟨x1,l1,rfl,h1,hl⟩:=List.map_eq_cons_iff.1 hl;obtain ⟨x2,l2,rfl,h2,hl⟩:=List.map_eq_cons_iff.1 hl;obtain ⟨x3,l3,rfl,h3,hl⟩:=List.map_eq_cons_iff.1 hl;obtain ⟨x4,l4,rfl,h4,hl⟩:=List.map_eq_cons_iff.1 hl;obtain rfl:=List.map_eq_nil_iff.1 hl;have k1:=hr x1;rw [h1] at k1;have k2:=hr x2;rw [h2] at k2;have k3:=hr x3;rw [h3] at k3;have k4:=hr x4;rw [h4] at k4;exact .val (bu4 k1.2 k2.2 k3.2 k4.2) rfl rfl
 ·cases h
theorem Out.make {o:Oper} (τ:Ty) (k:Nat) (hk:∀ (K:Act->World->Prop) (Q:Exit->Act->World->Prop),(∀ v1 w1,Kd.N τ.d τ.e w1 b (fr G O) v1 (List.replicate k τ.z)->Below b w w1->w.grownBy w1 none->(∃ q,v1.ownBlock=some q/\w.heap.size<=q)->K (a.put o.dst v1) w1)->Oper.wp Tryz.prog o a w K Q):Out b G O σ w a o (.v (.o τ (List.replicate k τ.z))):=
 ⟨λK Q hK=>hk K Q λv1 w1 h1 h2 h3 h4=>hK v1 w1 ⟨h3.os,h3.tape,h3.output,h3.size,λk hk=>h3.block k hk (by simp)⟩ ⟨h1,λk hk=>by
  obtain ⟨q,h5,h6⟩:=h4;rw [h5] at hk;cases hk
  exact h6⟩⟩
theorem Q7 {t:Nat} (h:Oi t (rs σ x) (rs σ y)=some (C,z)) (hC:C):Out b G O σ w a ⟨some i,.makeSlice t x y,ty,p,af,g⟩ z:=by
 have hr:=CP H x;have hs:=CP H y;have hfr:=FS H hG hb;unfold Oi at h;split at h
 ·rename_i m n hx hy;rw [hx] at hr;rw [hy] at hs;obtain ⟨rfl,rfl⟩:=In (AS h);obtain ⟨rfl,h0,hl⟩:=hC;have hl1:m.toNat*1<=281474976710656:=by rw [Nat.mul_one];exact hl
  refine Out.make H hG hb Ty.b m.toNat (λK Q hK=>?_);have:=Kd.N_make_step (P:=Tryz.prog) (ops:=#[]) (Q:=Q) (Kc:=K) (a:=a) (o:=⟨some i,.makeSlice 130 x y,ty,p,af,none⟩) Kd.bool (w0:=w) (W:=w) b 4 rfl rfl 130 x y rfl m hr.2 hs.2 (by kernel_rfl) (.bool false) 1 (by kernel_rfl) rfl Nat.one_pos Nat.one_pos false (ok:=fr G O) (okp:=λ_=>False) (λ_ _=>rfl) (λ_ hk=>hk.elim) hfr h0 hl1 (WG _ _) hb hK;split at this
  ·exact this
  ·rename_i hn;exact absurd rfl hn
 ·rename_i m n hx hy;rw [hx] at hr;rw [hy] at hs;obtain ⟨rfl,rfl⟩:=In (AS h);obtain ⟨rfl,h0,hl⟩:=hC;have hl1:m.toNat*8<=281474976710656:=by omega
  refine Out.make H hG hb Ty.i m.toNat (λK Q hK=>?_);have:=Kd.N_make_step (P:=Tryz.prog) (ops:=#[]) (Q:=Q) (Kc:=K) (a:=a) (o:=⟨some i,.makeSlice 32 x y,ty,p,af,none⟩) (Kd.int .i64) (w0:=w) (W:=w) b 3 rfl rfl 32 x y rfl m hr.2 hs.2 (by kernel_rfl) (.int .i64 0) 8 (by kernel_rfl) rfl Nat.one_pos (Nat.succ_pos 7) (0:Int) (ok:=fr G O) (okp:=λ_=>False) (λ_ _=>rfl) (λ_ hk=>hk.elim) hfr h0 hl1 (WG _ _) hb hK;split at this
  ·exact this
  ·rename_i hn;exact absurd rfl hn
 ·rename_i m n hx hy;rw [hx] at hr;rw [hy] at hs;obtain ⟨rfl,rfl⟩:=In (AS h);obtain ⟨rfl,h0,hl⟩:=hC;have hl1:m.toNat*1<=281474976710656:=by rw [Nat.mul_one];exact hl
  refine Out.make H hG hb Ty.y m.toNat (λK Q hK=>?_);have:=Kd.N_make_step (P:=Tryz.prog) (ops:=#[]) (Q:=Q) (Kc:=K) (a:=a) (o:=⟨some i,.makeSlice 22 x y,ty,p,af,none⟩) (Kd.int .u8) (w0:=w) (W:=w) b 5 rfl rfl 22 x y rfl m hr.2 hs.2 (by kernel_rfl) (.int .u8 0) 1 (by kernel_rfl) rfl Nat.one_pos Nat.one_pos (0:Int) (ok:=fr G O) (okp:=λ_=>False) (λ_ _=>rfl) (λ_ hk=>hk.elim) hfr h0 hl1 (WG _ _) hb hK;split at this
  ·exact this
  ·rename_i hn;exact absurd rfl hn
 ·cases h
end

end
section
def opnds:Op->List Operand
 | .move x=>[x]
 | .assign x=>[x]
 | .binOp _ _ x y _=>[x,y]
 | .unOp _ _ x=>[x]
 | .convert _ _ x=>[x]
 | .index _ x y=>[x,y]
 | .indexAddr _ x y=>[x,y]
 | .load _ x=>[x]
 | .slice _ x lo hi _=>x::(lo.toList++hi.toList)
 | .extract x _=>[x]
 | .call c=>c.args.toList
 | .buildSlice _ _ parts=>parts.toList.map (·.2)
 | .makeSlice _ x y=>[x,y]
 | .pick c x y=>[c,x,y]
 | .store _ _ y=>[y]
 | .fieldAddr _ x _=>[x]
 | .lookup _ x y _=>[x,y]
 | .box _ x=>[x]
 | .nilCheck x=>[x]
 | .build _ parts=>parts.toList.map (·.2)
 | _=>[]
theorem RB {r r':Operand->RV} {op:Op} (h:∀ x∈opnds op,r x=r' x):sv r op=sv r' op:=by
 cases op with
 | slice t x lo hi mx=>
  cases mx with
  | some _=>rfl
  | none=>
   simp only [sv];have h1:=h x (by simp [opnds])
   have h2:lo.map r=lo.map r':=by
    cases lo with
    | none=>rfl
    | some y=>simp only [Option.map_some];rw [h y (by simp [opnds])]
   have h3:hi.map r=hi.map r':=by
    cases hi with
    | none=>rfl
    | some y=>simp only [Option.map_some];rw [h y (by simp [opnds])]
   rw [h1,h2,h3]
 | buildSlice t n parts=>
  simp only [sv]
  cases hp:FH 0 parts.toList with
  | none=>rfl
  | some l=>
   have h1:l.map r=l.map r':=List.map_congr_left λx hx=>h x (by
    have h2:=GY _ _ _ hp;simp only [opnds,h2,List.map_map];refine List.mem_map.2 ?_;obtain ⟨k,hk⟩:=List.mem_iff_getElem?.1 hx
    exact ⟨(x,0+k),List.mem_iff_getElem?.2 ⟨k,by simp [hk]⟩,rfl⟩)
   simp only [h1]
 | build t parts=>
  simp only [sv]
  cases hp:FH 0 parts.toList with
  | none=>rfl
  | some l=>
   have h1:l.map r=l.map r':=List.map_congr_left λx hx=>h x (by
    have h2:=GY _ _ _ hp;simp only [opnds,h2,List.map_map];refine List.mem_map.2 ?_;obtain ⟨k,hk⟩:=List.mem_iff_getElem?.1 hx
    exact ⟨(x,0+k),List.mem_iff_getElem?.2 ⟨k,by simp [hk]⟩,rfl⟩)
   simp only [h1]
 | lookup t x y ok=>
  have h1:=h x (by simp [opnds]);have h2:=h y (by simp [opnds]);unfold sv
  split<;>simp_all
 | binOp op t x y t'=>
  have h1:=h x (by simp [opnds]);have h2:=h y (by simp [opnds]);unfold sv
  split<;>simp_all
 | call c=>
  obtain ⟨callee,args,ats⟩:=c
  cases callee with
  | builtin bi=>
   have h1:args.toList.map r=args.toList.map r':=List.map_congr_left h
   simp only [sv,h1]
  | _=>rfl
 | _=>first | rfl | (simp only [opnds,Wy,List.not_mem_nil,or_false,forall_eq_or_imp,forall_eq] at h;simp only [sv,h])
section
variable {a:Act} {y:Operand} {t ty t':Nat} {p:String} {af:Array Edge} {g:Option (Nat×Bool)} {m n:Int} {w w':World} {C:Prop} {z:AV} {b:Nat} {G:Nat->Prop} {O:Nat->Option Nat} {σ:St} {v:Value} {i j:Nat} {op:Op}
theorem UO (H:RO b G O σ (λj=>a.tmps.getD j undef) w) (hG:∀ k,b<=k->G k) (hb:b<=w.heap.size) (h:sv (rs σ) op=some (C,z)) (hC:C):Out b G O σ w a ⟨some i,op,ty,p,af,g⟩ z:=by
 unfold sv at h;split at h
 ·exact Rc H h
 ·exact Nx H h
 ·exact T9 H h
 ·exact Sk H h hC
 ·exact UR H h
 ·exact Qq H h hC
 ·exact Pt H h hC
 ·exact Qh H h hC
 ·exact Q1 H h
 ·exact PQ H h hC
 ·exact ME H h
 ·rename_i args ats;unfold svB at h;split at h
  ·rename_i h1 h2;obtain ⟨x,l,ha,rfl,hl⟩:=List.map_eq_cons_iff.1 h1;obtain rfl:=List.map_eq_nil_iff.1 hl;exact SS H ha h2 h
  ·rename_i h1 h2;obtain ⟨x,l,ha,rfl,hl⟩:=List.map_eq_cons_iff.1 h1;obtain ⟨y,l2,rfl,rfl,hl2⟩:=List.map_eq_cons_iff.1 hl;obtain rfl:=List.map_eq_nil_iff.1 hl2;exact S6 H ha h2 h
  ·rename_i h1 h2;obtain ⟨x,l,ha,rfl,hl⟩:=List.map_eq_cons_iff.1 h1;obtain ⟨y,l2,rfl,rfl,hl2⟩:=List.map_eq_cons_iff.1 hl;obtain rfl:=List.map_eq_nil_iff.1 hl2;exact S7 H ha h2 h
  ·cases h
 ·split at h
  ·rename_i l hp
   cases hn:Nat.beq _ l.length with
   | false=>rw [hn] at h;cases h
   | true=>
    rw [hn] at h;exact O6 H hG hb hp (Nat.eq_of_beq_eq_true hn) h
  ·cases h
 ·exact Q7 H hG hb h hC
 ·exact Q3 H h hC
 ·exact Pj H h
 ·exact Sl H hG hb h
 ·exact O2 H hG hb h
 ·exact S9 H h
 ·split at h
  ·rename_i l hp;exact Se H hG hb hp h
  ·cases h
 ·cases h
end
def TabW (w:World):Prop:=Lib.TabIs Tryz.prog w "internal/strconv.uint64pow10" .u64 Lib.pow10Tab
theorem TabW.below {w w':World} (h:TabW w) (hb:Below w.heap.size w w'):TabW w':=by
 unfold TabW Lib.TabIs World.var? at h ⊢
 cases hg:Program.globalNamed Tryz.prog "internal/strconv.uint64pow10" with
 | none=>rw [hg] at h;exact absurd h (by simp)
 | some g=>
  rw [hg] at h;simp only [AI] at h ⊢
  have hlt:g<w.heap.size:=by
   rcases Nat.lt_or_ge g w.heap.size with h1 | h1
   ·exact h1
   ·rw [Array.getElem?_eq_none h1] at h;exact absurd h (by simp)
  rw [hb.block g hlt];exact h
def cvr (ok:Nat->Prop) (w:World):BV->Value->Prop
 | .u,_=>True
 | .vd,v=>v=undef
 | .i n,v=>v=.int .i64 n
 | .b x,v=>v=.bool x
 | .y n,v=>v=.int .u8 n
 | .s x,v=>v=.string x
 | .f t xs,v=>Kd.V t.d t.e w 0 ok v xs
 | .o _ _,_=>False
 | .h x,v=>x.R w ok v
def crv (ok:Nat->Prop) (b:Nat) (w':World):BV->Value->Prop
 | .u,_=>True
 | .vd,v=>v=undef
 | .i n,v=>v=.int .i64 n
 | .b x,v=>v=.bool x
 | .y n,v=>v=.int .u8 n
 | .s x,v=>v=.string x
 | .f t xs,v=>Kd.V t.d t.e w' 0 (λk=>ok k\/b<=k) v xs
 | .o t xs,v=>Kd.N t.d t.e w' b (λk=>ok k\/b<=k) v xs
 | .h x,v=>x.R w' (λk=>ok k\/b<=k) v
def crvs (ok:Nat->Prop) (b:Nat) (w':World):List BV->Value->Prop
 | [x],v=>crv ok b w' x v
 | xs,v=>∃ arr:Array Value,v=.tuple arr/\arr.size=xs.length/\∀ (k:Nat) (x:BV),xs[k]?=some x->∃ u,arr[k]?=some u/\crv ok b w' x u
structure Ct (f:Nat) (ins res:List BV):Prop where
 enter:∃ fn,Tryz.prog.funcs[f]?=some fn/\(fn.name== "runtime.NumGoroutine")=false/\fn.body.isSome=true
 run:∀ (vs:Array Value) (w:World) (ok:Nat->Prop),TabW w->vs.size=ins.length->(∀ (k:Nat) (x:BV) (u:Value),ins[k]?=some x->vs[k]?=some u->cvr ok w x u)->Calls Tryz.prog f vs w λe w'=>Below w.heap.size w w'/\∃ v,e=.returned v/\crvs ok w.heap.size w' res v
def argOf:RV->Option BV
 | .v x=>some x
 | .A _ t xs=>some (.f t xs)
 | .W _ t xs=>some (.f t xs)
 | _=>none
def F4 (r:Operand->RV):List Operand->Option (List BV)
 | []=>some []
 | x::l=>match argOf (r x),F4 r l with
  | some v,some vs=>some (v::vs)
  | _,_=>none
def isA:RV->Bool | .A _ _ _=>true | .W _ _ _=>true | _=>false
def BV.clean:BV->Bool | .h _=>false | .f _ _=>false | .o .l _=>false | _=>true
def resOf:List BV->AV
 | [x]=>.v x
 | xs=>.t xs

end
section
section
variable {a:Act} {x y:Operand} {t ty t':Nat} {p:String} {af:Array Edge} {g:Option (Nat×Bool)} {m n:Int} {w w':World} {C:Prop} {z:AV} {b:Nat} {G:Nat->Prop} {O:Nat->Option Nat} {σ:St} {v:Value} {i j:Nat} {op:Op} {tm:Nat->Value}
theorem U8 {τ:Ty} (hτ:τ≠.l) {ok ok':Nat->Prop} {x:τ.A} {c:List Value} (h:Kd.FK τ.d w ok x c):Kd.FK τ.d w ok' x c:=by
 cases τ with
 | l=>exact absurd rfl hτ
 | _=>have h1:=Kd.FK_now h;exact λ_ _=>h1
theorem TY {τ:Ty} (hτ:τ≠.l) {base:Nat} {ok ok':Nat->Prop} {xs:List τ.A} (h:Kd.N τ.d τ.e w base ok v xs) (ho:∀ k,v.ownBlock=some k->ok' k):Kd.N τ.d τ.e w base ok' v xs:=by
 obtain ⟨h0,rows,hl,hR,hf⟩:=h;exact ⟨ho,rows,hl,hR,λj x c hx hc=>U8 hτ (hf j x c hx hc)⟩
theorem Out.call {o:Oper} {f:Nat} {args:Array Operand} {ats:Array Nat} (hop:o.op=.call { callee:=.value (.func f),args:=args,argTypes:=ats }) {ins res:List BV} (hc:Ct f ins res) (ht:TabW w) (ok:Nat->Prop) (hs:args.size=ins.length)
  (ha:∀ (k:Nat) (x:BV) (y:Operand),ins[k]?=some x->args[k]?=some y->cvr ok w x (a.eval y)) (hz:∀ v w',Below w.heap.size w w'->crvs ok w.heap.size w' res v->ovr b G O σ w w' (λj=>a.tmps.getD j undef) z v):Out b G O σ w a o z:=by
 obtain ⟨fn,h1,h2,h3⟩:=hc.enter;refine ⟨λK Q hK=>?_⟩
 have hcall:=(hc.run (args.map a.eval) w ok ht (by rw [Array.size_map];exact hs) (λk x u hx hu=>by
  rw [Array.getElem?_map] at hu;obtain ⟨y,hy,rfl⟩:=Option.map_eq_some_iff.1 hu
  exact ha k x y hx hy)).mono (R':=λe w'=>∃ v,e=.returned v/\K (a.put o.dst v) w') (λe w' ⟨hb,v,he,hr⟩=>⟨v,he,hK v w' hb (hz v w' hb hr)⟩)
 have he:=Hb h1 h2 h3 (args.map a.eval) w
 have hrun:(execOp a.eval o).run Tryz.prog w=.ok (.enter f (args.map a.eval)) w:=by
  unfold execOp;simp [hop,resolve,Deferred.ofValue,invoke,Act.eval,he]
 unfold Oper.wp;rw [hrun,Oper.upon_enter];refine hcall.mono λe w'' hh=>?_;obtain ⟨v,rfl,hk⟩:=hh;exact hk
theorem KW {r:Operand->RV}:∀ {l:List Operand} {vs:List BV},F4 r l=some vs->l.length=vs.length/\∀ (k:Nat) (x:BV) (y:Operand),vs[k]?=some x->l[k]?=some y->argOf (r y)=some x
 | [],vs,h=>by cases h;exact ⟨rfl,λk x y hx=>by simp at hx⟩
 | y::l,vs,h=>by
  unfold F4 at h;split at h
  ·rename_i v vs' h1 h2;cases h;obtain ⟨k1,k2⟩:=KW h2;refine ⟨by simp [k1],λk x y' hx hy=>?_⟩;rcases k with _ | k
   ·simp only [List.getElem?_cons_zero,AT] at hx hy;subst hx;subst hy;exact h1
   ·exact k2 k x y' hx hy
  ·cases h
theorem Tg {l:List BV} (h:∀ x,l≠[x]):resOf l=.t l:=by
 unfold resOf;split
 ·rename_i x;exact absurd rfl (h x)
 ·rfl
variable (H:RO b G O σ (λj=>a.tmps.getD j undef) w) (hG:∀ k,b<=k->G k) (hb:b<=w.heap.size)
include H hG hb
theorem Qp (ht:TabW w) {f:Nat} {args:Array Operand} {ats:Array Nat} {ins res:List BV} (ha:F4 (rs σ) args.toList=some ins) (hc:Ct f ins res) (h1:tupOk res=true)
  (hcl:args.toList.any (λx=>isA (rs σ x))=false\/res.all BV.clean=true):Out b G O σ w a ⟨some i,.call { callee:=.value (.func f),args:=args,argTypes:=ats },ty,p,af,g⟩ (resOf res):=by
 obtain ⟨hs,hat⟩:=KW ha
 have hfresh:∀ k,w.heap.size<=k->fr G O k:=λk hk=>⟨hG k (by omega),λj he=>by have:=H.old j k he;omega⟩
 have hres:∀ (ok:Nat->Prop),(∀ k,ok k->fr G O k)\/res.all BV.clean=true->∀ w' x v,x∈res->crv ok w.heap.size w' x v->(x.own=false->bvr b G O w' 0 x v)/\∀ t ys,x=.o t ys->nvr b G O w w' t ys v:=by
  intro ok hok w' x v hx hv;have hcx:(∀ k,ok k->fr G O k)\/x.clean=true:=hok.imp id λh=>List.all_eq_true.1 h x hx
  cases x with
  | f t xs=>
   refine ⟨λ_=>Kd.V_mono (e:=t.e) (base:=0) hv (λk hk=>hk.elim (hcx.elim (λh=>h k) (λh=>by cases h)) (hfresh k)),λ_ _ h=>by cases h⟩
  | h x=>exact ⟨λ_=>FV.mono hv (λk hk=>hk.elim (hcx.elim (λh=>h k) (λh=>by cases h)) (hfresh k)),λ_ _ h=>by cases h⟩
  | o t xs=>
   refine ⟨λh=>(by cases h),λt' ys he=>?_⟩;cases he;have hbase:=Kd.N_base hv;refine ⟨?_,hbase⟩;rcases hcx with h | h
   ·exact Kd.N_mono (Kd.N_lower hv hb) (λk hk=>hk.elim (h k) (hfresh k))
   ·exact TY (by rintro rfl;cases h) (Kd.N_lower hv hb) (λk hk=>hfresh k (hbase k hk))
  | _=>exact ⟨λ_=>hv,λ_ _ h=>by cases h⟩
 have hfin:∀ (ok:Nat->Prop),(∀ k,ok k->fr G O k)\/res.all BV.clean=true->∀ v w',Below w.heap.size w w'->crvs ok w.heap.size w' res v->ovr b G O σ w w' (λj=>a.tmps.getD j undef) (resOf res) v:=by
  intro ok hok v w' _ hv;unfold crvs at hv;split at hv
  ·rename_i x;obtain ⟨k1,k2⟩:=hres ok hok w' x v (by simp) hv
   cases x with
   | o t xs=>exact k2 t xs rfl
   | _=>exact ON rfl (k1 rfl)
  ·rename_i h2;rw [Tg (λx he=>h2 x he)];obtain ⟨arr,e1,e2,e3⟩:=hv;refine ⟨h1,arr,e1,e2,λk x hx=>?_⟩;obtain ⟨u,hu,hv⟩:=e3 k x hx;obtain ⟨k1,k2⟩:=hres ok hok w' x u (List.mem_of_getElem? hx) hv;exact ⟨u,hu,k1,k2⟩
 rcases hcl with hcl | hcl
 ·refine .call rfl hc ht (fr G O) (by simpa using hs) (λk x y hx hy=>?_) (hfin _ (.inl λ_ h=>h));have hy':args.toList[k]?=some y:=by simpa using hy
  have h2:=hat k x y hx hy';have h3:=List.any_eq_false.1 hcl y (List.mem_of_getElem? hy');have hr:=CP H y
  cases hry:rs σ y with
  | v q=>
   rw [hry] at h2 hr;cases h2
   cases x with
   | o t xs=>exact absurd hr.1 (by simp [BV.own])
   | f t xs=>exact hr.2
   | _=>exact hr.2
  | _=>rw [hry] at h2 h3;first | exact absurd rfl h3 | cases h2
 ·refine .call rfl hc ht G (by simpa using hs) (λk x y hx hy=>?_) (hfin _ (.inr hcl));have hy':args.toList[k]?=some y:=by simpa using hy
  have h2:=hat k x y hx hy';have hr:=CP H y
  cases hry:rs σ y with
  | v q=>
   rw [hry] at h2 hr;cases h2
   cases x with
   | o t xs=>exact absurd hr.1 (by simp [BV.own])
   | f t xs=>exact Kd.V_mono (e:=t.e) (base:=b) hr.2 (λk hk=>hk.1)
   | h x=>exact FV.mono hr.2 (λk hk=>hk.1)
   | _=>exact hr.2
  | A j t xs=>
   rw [hry] at h2 hr;cases h2;refine Kd.V_mono (e:=t.e) (base:=b) (Kd.N_V hr.2.1) (λk hk=>hk.elim (λh=>?_) (λh=>h.1))
   exact hG k (Kd.N_base hr.2.1 k (hr.2.2.trans h))
  | W j t xs=>
   obtain ⟨τ,ys,hw⟩:=UD H hry;have hn:=H.val j _ hw;rw [hry] at h2 hr;cases h2;refine Kd.V_mono (e:=t.e) (base:=b) hr (λk hk=>hk.elim (λh=>?_) (λh=>h.1))
   exact hG k (Kd.N_base hn.1 k (hn.2.trans h))
  | _=>rw [hry] at h2;cases h2
end

end
section
def GX:Option AV->Bool
 | some (.v x)=>!x.own
 | some (.t xs)=>!xs.any BV.own
 | some (.z _)=>false
 | _=>true
def free (σ:St) (d:Nat):Bool:=GX (look σ d)
def hit (k j:Nat):AV->Bool
 | .a i=>Nat.beq j k||Nat.beq i k
 | .w i _ _=>Nat.beq j k||Nat.beq i k
 | .q i _=>Nat.beq j k||Nat.beq i k
 | _=>Nat.beq j k
def kill (k:Nat):St->St
 | []=>[]
 | (j,x)::σ=>(j,bif hit k j x then .v .u else x)::kill k σ
def setO (O:Nat->Option Nat) (d:Nat) (k:Option Nat):Nat->Option Nat:=λj=>if j=d then k else O j
section
variable {a:Act} {d:Nat} {w w':World} {z:AV} {b:Nat} {G:Nat->Prop} {O:Nat->Option Nat} {σ:St} {v:Value} {i j:Nat} {tm tm':Nat->Value}
theorem Bm {x:AV}:look ((j,x)::σ) i=if j=i then some x else look σ i:=by
 show (bif Nat.beq j i then some x else look σ i)=_;by_cases h:j=i
 ·subst h;rw [if_pos rfl,Nat.beq_refl];rfl
 ·have:Nat.beq j i=false:=by
   cases hb:Nat.beq j i with
   | false=>rfl
   | true=>exact absurd (Nat.eq_of_beq_eq_true hb) h
  rw [if_neg h,this];rfl
theorem Jb {k:Nat} {x:AV}:∀ {σ:St},look (kill k σ) i=some x->x=.v .u\/(look σ i=some x/\i≠k/\x.dep i≠some k)
 | [],h=>by cases h
 | (j,y)::σ,h=>by
  unfold kill at h;rw [Bm] at h ⊢;by_cases hj:j=i
  ·rw [if_pos hj] at h ⊢;subst hj;have hx:=AS h
   cases hh:hit k j y with
   | true=>rw [hh] at hx;exact .inl hx.symm
   | false=>
    rw [hh] at hx;obtain rfl:y=x:=hx;have hb:∀ m n:Nat,Nat.beq m n=false->m≠n:=λm n h1 h2=>by subst h2;simp at h1
    refine .inr ⟨rfl,?_⟩
    cases y with
    | v y=>
     have:=hb _ _ hh;refine ⟨this,?_⟩;cases y<;>simp only [AV.dep,ne_eq,reduceCtorEq,not_false_eq_true,AT]
     exact this
    | a m=>
     simp only [hit,Bool.or_eq_false_iff] at hh
     exact ⟨hb _ _ hh.1,λe=>hb _ _ hh.2 (AS e)⟩
    | w m t xs=>
     simp only [hit,Bool.or_eq_false_iff] at hh
     exact ⟨hb _ _ hh.1,λe=>hb _ _ hh.2 (AS e)⟩
    | q m n=>
     simp only [hit,Bool.or_eq_false_iff] at hh
     exact ⟨hb _ _ hh.1,λe=>hb _ _ hh.2 (AS e)⟩
    | p y=>exact ⟨hb _ _ hh,λe=>by cases e⟩
    | t xs=>
     refine ⟨hb _ _ hh,λe=>?_⟩;simp only [AV.dep] at e;split at e
     ·exact hb _ _ hh (AS e)
     ·cases e
    | z q=>exact ⟨hb _ _ hh,λe=>hb _ _ hh (AS e)⟩
  ·rw [if_neg hj] at h ⊢;exact Jb h
theorem Hc {t:Ty} {xs:List t.A} (h:free σ d=true) (hl:look σ j=some (.v (.o t xs))):j≠d:=by
 rintro rfl;unfold free at h;rw [hl] at h;cases h
theorem QL (H:RO b G O σ tm w) (h:free σ d=true) (hl:look σ j=some z) (hj:j≠d):z.dep j≠some d:=by
 have hv:=H.val j z hl;intro e
 cases z with
 | v x=>cases x<;>cases e;exact hj rfl
 | a m=>
  cases e;obtain ⟨_,t,xs,h2⟩:=hv
  exact Hc h h2 rfl
 | w m t xs=>
  cases e;obtain ⟨_,t,xs,h2⟩:=hv
  exact Hc h h2 rfl
 | q m n=>
  cases e;obtain ⟨t,xs,_,_,h2,_⟩:=hv
  exact Hc h h2 rfl
 | p x=>cases e
 | t xs=>
  simp only [AV.dep] at e;split at e
  ·exact hj (AS e)
  ·cases e
 | z q=>exact hj (AS e)
theorem KD {i:Nat} (hd:d<a.tmps.size):(a.put (some d) v).tmps.getD i undef=if i=d then v else a.tmps.getD i undef:=by
 show (a.tmps.setIfInBounds d v).getD i undef=_;by_cases h:i=d
 ·subst h;rw [if_pos rfl];simp [Array.getD_eq_getD_getElem?,hd]
 ·rw [if_neg h];simp [Array.getD_eq_getD_getElem?,Array.getElem?_setIfInBounds_ne (Ne.symm h)]
theorem RO.put (H:RO b G O σ tm w) (hG:∀ k,b<=k->G k) (hb:b<=w.heap.size) (hB:Below w.heap.size w w') (hz:ovr b G O σ w w' tm z v) (hf:free σ d=true) (htm:∀ i,tm' i=if i=d then v else tm i):∃ O',RO b G O' ((d,z)::σ) tm' w':=by
 have go:∀ O',(∀ j,j≠d->O' j=O j)->(∀ k,O' d=some k->w.heap.size<=k/\k<w'.heap.size\/O'=O)->avr b G O' ((d,z)::σ) w' tm' d z v->RO b G O' ((d,z)::σ) tm' w':=by
  intro O' h1 h2 h3
  have hne:∀ k,k<w.heap.size->fr G O k->fr G O' k:=λk hk hk2=>⟨hk2.1,λj e=>by
   by_cases hj:j=d
   ·subst hj;rcases h2 k e with h4 | h4
    ·omega
    ·rw [h4] at e;exact hk2.2 _ e
   ·rw [h1 j hj] at e;exact hk2.2 _ e⟩
  refine H.upd (λj=>j=d) hB.size (λk hk _=>hB.block k hk) hne (λj hj=>⟨by rw [htm,if_neg hj],h1 j hj,λk hk=>hB.block k (H.old j k hk)⟩) (λj x hj hx=>?_) (λi j k hi hj=>?_) (λi k hi=>?_) (λj x hj hx=>?_)
  ·rw [Bm,if_neg (Ne.symm hj)] at hx;refine .inr ⟨hx,λm hm=>?_⟩;have hmd:m≠d:=λe=>QL H hf hx hj (by rw [hm,e]);exact ⟨hmd,by rw [Bm,if_neg (Ne.symm hmd)]⟩
  ·by_cases hid:i=d
   ·subst hid;by_cases hjd:j=i
    ·exact hjd.symm
    ·rcases h2 k hi with h4 | h4
     ·rw [h1 j hjd] at hj;have:=H.old j k hj;omega
     ·rw [h4] at hi hj;exact H.inj _ _ _ hi hj
   ·by_cases hjd:j=d
    ·subst hjd;rcases h2 k hj with h4 | h4
     ·rw [h1 i hid] at hi;have:=H.old i k hi;omega
     ·rw [h4] at hi hj;exact H.inj _ _ _ hi hj
    ·rw [h1 i hid] at hi;rw [h1 j hjd] at hj;exact H.inj _ _ _ hi hj
  ·by_cases hid:i=d
   ·subst hid;rcases h2 k hi with h4 | h4
    ·exact h4.2
    ·rw [h4] at hi;exact WK (H.old _ _ hi) hB.size
   ·rw [h1 i hid] at hi;exact WK (H.old _ _ hi) hB.size
  ·subst hj;rw [Bm,if_pos rfl] at hx;cases hx;rw [htm,if_pos rfl];exact h3
 have same:avr b G O ((d,z)::σ) w' tm' d z v->∃ O',RO b G O' ((d,z)::σ) tm' w':=λh=>⟨O,go O (λ_ _=>rfl) (λ_ _=>.inr rfl) h⟩
 have hlook:∀ {j:Nat} {t:Ty} {xs:List t.A},look σ j=some (.v (.o t xs))->look ((d,z)::σ) j=some (.v (.o t xs))/\tm' j=tm j:=λ{j t xs} h=>by
  have hj:=Hc hf h;exact ⟨by rw [Bm,if_neg (Ne.symm hj)];exact h,by rw [htm,if_neg hj]⟩
 have new:∀ {t:Ty} {xs:List t.A} {u:Value},nvr b G O w w' t xs u->(∀ k,setO O d u.ownBlock d=some k->w.heap.size<=k/\k<w'.heap.size)/\bvr b G (setO O d u.ownBlock) w' d (.o t xs) u:=by
  intro t xs u h;refine ⟨λk hk=>?_,Kd.N_mono h.1 (λk hk=>?_),?_⟩
  ·have hk:u.ownBlock=some k:=by simpa [setO] using hk
   exact ⟨h.2 k hk,Kd.N_lt h.1 k hk⟩
  ·by_cases he:u.ownBlock=some k
   ·exact .inl (by simpa [setO] using he)
   ·exact .inr ⟨hk.1,λj e=>by
     unfold setO at e;split at e
     ·exact he e
     ·exact hk.2 j e⟩
  ·simp [setO]
 cases z with
 | v x=>
  cases x with
  | o t xs=>
   obtain ⟨h1,h2⟩:=new hz
   exact ⟨_,go _ (λj hj=>by simp [setO,hj]) (λk hk=>.inl (h1 k hk)) h2⟩
  | f t xs=>exact same hz
  | _=>exact same hz
 | a j=>
  obtain ⟨h1,t,xs,h2⟩:=hz
  exact same ⟨h1.trans (hlook h2).2.symm,t,xs,(hlook h2).1⟩
 | w j t xs=>
  obtain ⟨h1,t',ys,h2⟩:=hz
  exact same ⟨h1,t',ys,(hlook h2).1⟩
 | p x=>
  obtain ⟨h1,ad,u,h2,h3,h4,h5⟩:=hz
  exact same ⟨h1,ad,u,h2,h3,h4,Gm h1 h5⟩
 | q j n=>
  obtain ⟨t,xs,g,cap,h1,h2,h3,h4,h5⟩:=hz
  exact same ⟨t,xs,g,cap,(hlook h1).1,h2,h3,(hlook h1).2.trans h4,h5⟩
 | t xs=>
  obtain ⟨hok,arr,h1,h2,h3⟩:=hz;rcases Lu hok with hn | ⟨k0,x0,hk0,ho,hs⟩
  ·refine same ⟨arr,h1,h2,λk x hx=>?_⟩;obtain ⟨u,hu,h4,_⟩:=h3 k x hx;have:=hn x (List.mem_of_getElem? hx);exact ⟨u,hu,Gm this (h4 this)⟩
  ·obtain ⟨u0,hu0,_,h5⟩:=h3 k0 x0 hk0
   cases x0 with
   | o t ys=>
    obtain ⟨k1,k2⟩:=new (h5 t ys rfl);refine ⟨_,go _ (λj hj=>by simp [setO,hj]) (λk hk=>.inl (k1 k hk)) ⟨arr,h1,h2,λk x hx=>?_⟩⟩;obtain ⟨u,hu,h6,_⟩:=h3 k x hx;refine ⟨u,hu,?_⟩;by_cases hk:k=k0
    ·subst hk;rw [hk0] at hx;cases hx;rw [hu0] at hu;cases hu;exact k2
    ·have:=hs k x hx hk
     cases x<;>first | exact h6 rfl | cases this
   | _=>cases ho
 | z q=>
  obtain ⟨g,k1,k2,k3⟩:=hz;have hlt:g<w'.heap.size:=(Array.getElem?_eq_some_iff.1 k3).1
  have h2:∀ k,setO O d (some g) d=some k->w.heap.size<=k/\k<w'.heap.size\/setO O d (some g)=O:=λk hk=>by
   have hgk:g=k:=by simpa [setO] using hk
   exact .inl ⟨by omega,by omega⟩
  exact ⟨_,go (setO O d (some g)) (λj hj=>by simp [setO,hj]) h2 ⟨g,by simp [setO],k2,k3,WA hb k1⟩⟩
end

end
section
section
variable {a:Act} {d:Nat} {w w':World} {z:AV} {b:Nat} {G:Nat->Prop} {O:Nat->Option Nat} {σ σ1:St} {v:Value} {i j:Nat} {tm tm':Nat->Value} {K:Nat->Bool}
structure Killed (K:Nat->Bool) (σ σ1:St) (tm:Nat->Value):Prop where
 out:∀ j x,look σ1 j=some x->x=.v .u\/(look σ j=some x/\K j=false/\∀ m,x.dep j=some m->K m=false)\/(K j=true/\∀ b G O σ w tm' i,avr b G O σ w tm' i x (tm j))
 own:∀ (m:Nat) (τ:Ty) (xs:List τ.A),K m=false->look σ m=some (.v (.o τ xs))->look σ1 m=some (.v (.o τ xs))
theorem EW {k:Nat} {x:AV}:∀ {σ:St},look σ i=some x->hit k i x=false->look (kill k σ) i=some x
 | [],h,_=>by cases h
 | (j,y)::σ,h,hh=>by
  unfold kill;rw [Bm] at h ⊢;by_cases hj:j=i
  ·rw [if_pos hj] at h ⊢;subst hj;cases h;rw [hh];rfl
  ·rw [if_neg hj] at h ⊢;exact EW h hh
theorem C7 {m n:Nat}:Nat.beq m n=false↔m≠n:=
 ⟨λh e=>(by subst e;rw [Nat.beq_refl] at h;cases h),λh=>by
  cases hb:Nat.beq m n with
  | false=>rfl
  | true=>exact absurd (Nat.eq_of_beq_eq_true hb) h⟩
theorem Killed.one (k:Nat):Killed (λj=>Nat.beq j k) σ (kill k σ) tm:=
 ⟨λj x h=>(Jb h).imp id λh=>.inl ⟨h.1,C7.2 h.2.1,λm hm=>C7.2 λe=>h.2.2 (by rw [hm,e])⟩,λm τ xs hm h=>EW h hm⟩
theorem Killed.more (k:Nat) (h:Killed K σ σ1 tm):Killed (λj=>K j||Nat.beq j k) σ (kill k σ1) tm:=by
 refine ⟨λj x hx=>?_,λm τ xs hm hl=>?_⟩
 ·rcases Jb hx with h1 | ⟨h1,h2,h3⟩
  ·exact .inl h1
  ·rcases h.out j x h1 with h4 | ⟨h4,h5,h6⟩ | ⟨h4,h5⟩
   ·exact .inl h4
   ·refine .inr (.inl ⟨h4,by simp [h5,C7.2 h2],λm hm=>?_⟩);have h7:m≠k:=λe=>h3 (by rw [hm,e]);simp [h6 m hm,C7.2 h7]
   ·exact .inr (.inr ⟨by simp [h4],h5⟩)
 ·have hm:=Bool.or_eq_false_iff.1 hm;exact EW (h.own m τ xs hm.1 hl) hm.2
theorem RO.dep (H:RO b G O σ tm w) {x:AV} (h:look σ j=some x) {m:Nat} (hm:x.dep j=some m):m=j\/∃ τ xs,look σ m=some (.v (.o τ xs)):=by
 have hv:=H.val j x h
 cases x with
 | v x=>cases x<;>cases hm;exact .inl rfl
 | a k=>cases hm;exact .inr hv.2
 | w k t xs=>cases hm;exact .inr hv.2
 | q k n=>
  cases hm;obtain ⟨t,xs,_,_,h2,_⟩:=hv
  exact .inr ⟨t,xs,h2⟩
 | p x=>cases hm
 | t xs=>
  simp only [AV.dep] at hm;split at hm
  ·exact .inl (AS hm).symm
  ·cases hm
 | z q=>exact .inl (AS hm).symm
def takeO (O:Nat->Option Nat) (K:Nat->Bool):Nat->Option Nat:=λj=>bif K j then none else O j
theorem Fu {k:Nat} (h:fr G O k):fr G (takeO O K) k:=⟨h.1,λm e=>by
 unfold takeO at e
 cases hK:K m with
 | true=>rw [hK] at e;cases e
 | false=>rw [hK] at e;exact h.2 m e⟩
theorem RO.swap (H:RO b G O σ tm w) (hk:Killed K σ σ1 tm) (hd:K d=true) {blk:Option Nat} (hsz:w.heap.size<=w'.heap.size)
  (hh:∀ k,k<w.heap.size->(∀ j,K j=true->O j≠some k)->w'.heap[k]?=w.heap[k]?)
  (hnew:∀ O',O' d=blk->(∀ k,fr G (takeO O K) k->blk=some k\/fr G O' k)->avr b G O' ((d,z)::σ1) w' tm' d z v)
  (hlt:∀ k,blk=some k->k<w'.heap.size) (hblk:∀ k,blk=some k->w.heap.size<=k\/∃ j,K j=true/\O j=some k) (htm:∀ i,K i=false->tm' i=tm i) (hv:tm' d=v) (htK:∀ i,K i=true->i≠d->tm' i=tm i) :
  RO b G (setO (takeO O K) d blk) ((d,z)::σ1) tm' w':=by
 have hne:∀ {j},K j=false->j≠d:=λhj e=>by rw [e,hd] at hj;cases hj
 have hO:∀ {j},K j=false->setO (takeO O K) d blk j=O j:=λhj=>by simp [setO,takeO,hne hj,hj]
 have hO':∀ {j k},setO (takeO O K) d blk j=some k->(j=d/\blk=some k)\/(j≠d/\K j=false/\O j=some k):=λ{j k} h=>by
  unfold setO at h;split at h
  ·rename_i hj;exact .inl ⟨hj,h⟩
  ·rename_i hj;unfold takeO at h
   cases hK:K j with
   | true=>rw [hK] at h;cases h
   | false=>rw [hK] at h;exact .inr ⟨hj,rfl,h⟩
 have hlook:∀ {m:Nat} {τ':Ty} {ys:List τ'.A},K m=false->look σ m=some (.v (.o τ' ys))->look ((d,z)::σ1) m=look σ m:=λ{m τ' ys} hm hl=>by
  rw [Bm,if_neg (Ne.symm (hne hm)),hl];exact hk.own m τ' ys hm hl
 have hblk':∀ {k i},blk=some k->K i=false->O i≠some k:=λ{k i} h1 h2 h3=>by
  rcases hblk k h1 with h4 | ⟨j,h4,h5⟩
  ·have:=H.old i k h3;omega
  ·have:=H.inj i j k h3 h5;rw [this,h4] at h2;cases h2
 refine H.upd (λj=>K j=true) hsz (λk hlt hf=>hh k hlt λj _=>hf.2 j) (λk hlt hf=>⟨hf.1,λj e=>?_⟩) (λj hj=>?_) (λj x hj hx=>?_) (λi j k hi hj=>?_) (λi k hi=>?_) (λj x hj hx=>?_)
 ·rcases hO' e with ⟨_,h1⟩ | ⟨_,_,h1⟩
  ·rcases hblk k h1 with h2 | ⟨j,_,h2⟩
   ·omega
   ·exact hf.2 j h2
  ·exact hf.2 j h1
 ·have hj:K j=false:=by simpa using hj
  refine ⟨htm j hj,hO hj,λk hk2=>hh k (H.old j k hk2) λi hi e=>?_⟩;have:=H.inj i j k e hk2;rw [this,hj] at hi;cases hi
 ·have hj:K j=false:=by simpa using hj
  rw [Bm,if_neg (Ne.symm (hne hj))] at hx;rcases hk.out j x hx with h1 | ⟨h1,h2,h3⟩ | ⟨h1,_⟩
  ·exact .inl h1
  ·refine .inr ⟨h1,λm hm=>⟨by rw [h3 m hm];exact Bool.false_ne_true,?_⟩⟩;rcases H.dep h1 hm with rfl | ⟨τ',ys,h4⟩
   ·rw [Bm,if_neg (Ne.symm (hne hj)),h1,hx]
   ·exact hlook (h3 m hm) h4
  ·rw [hj] at h1;cases h1
 ·rcases hO' hi with ⟨rfl,h1⟩ | ⟨_,h0,h1⟩<;>rcases hO' hj with ⟨rfl,h2⟩ | ⟨_,h3,h2⟩
  ·rfl
  ·exact absurd h2 (hblk' h1 h3)
  ·exact absurd h1 (hblk' h2 h0)
  ·exact H.inj _ _ _ h1 h2
 ·rcases hO' hi with ⟨_,h1⟩ | ⟨_,_,h1⟩
  ·exact hlt k h1
  ·exact WK (H.old _ _ h1) hsz
 ·by_cases hjd:j=d
  ·subst hjd;rw [Bm,if_pos rfl] at hx;cases hx;rw [hv];refine hnew _ (by simp [setO]) λk hk2=>?_;by_cases he:blk=some k
   ·exact .inl he
   ·refine .inr ⟨hk2.1,λi e=>?_⟩;rcases hO' e with ⟨_,h1⟩ | ⟨_,h0,h1⟩
    ·exact he h1
    ·exact hk2.2 i (by simp [takeO,h0,h1])
  ·rw [Bm,if_neg (Ne.symm hjd)] at hx;rcases hk.out j x hx with rfl | ⟨_,h2,_⟩ | ⟨_,h1⟩
   ·trivial
   ·rw [hj] at h2;cases h2
   ·rw [htK j hj hjd];exact h1 b G _ _ w' _ j
theorem RO.swapN (H:RO b G O σ tm w) (hk:Killed K σ σ1 tm) (hd:K d=true) {τ:Ty} {xs:List τ.A} (hsz:w.heap.size<=w'.heap.size)
  (hh:∀ k,k<w.heap.size->(∀ j,K j=true->O j≠some k)->w'.heap[k]?=w.heap[k]?)
  (hN:Kd.N τ.d τ.e w' b (λk=>v.ownBlock=some k\/fr G (takeO O K) k) v xs)
  (hblk:∀ k,v.ownBlock=some k->w.heap.size<=k\/∃ j,K j=true/\O j=some k) (htm:∀ i,K i=false->tm' i=tm i) (hv:tm' d=v) (htK:∀ i,K i=true->i≠d->tm' i=tm i) :
  RO b G (setO (takeO O K) d v.ownBlock) ((d,.v (.o τ xs))::σ1) tm' w':=
 H.swap hk hd hsz hh (λO' h1 h2=>⟨Kd.N_mono hN (λk hk=>hk.elim (λh=>.inl (h1.trans h)) (λh=>(h2 k h).imp h1.trans id)),h1.symm⟩) (Kd.N_lt hN) hblk htm hv htK
end

end
section
structure RS (b:Nat) (G:Nat->Prop) (w0:World) (nt:Nat) (σ:St) (a:Act) (w:World):Prop where
 ro:∃ O,RO b G O σ (λj=>a.tmps.getD j undef) w
 size:a.tmps.size=nt
 defers:a.defers=[]
 below:Below b w0 w
 base:b<=w.heap.size
def tyT:Nat->Option Ty | 32=>some .i | 130=>some .b | 22=>some .y | 36=>some .s | 75=>some .l | _=>none
def catE:(τ:Ty)->List τ.A->LV->Option (Prop×List τ.A)
 | .i,xs,⟨.i,ys⟩=>some (xs.length+ys.length<=17592186044416,xs++ys)
 | .b,xs,⟨.b,ys⟩=>some (xs.length+ys.length<=140737488355328,xs++ys)
 | .y,xs,⟨.y,ys⟩=>some (xs.length+ys.length<=140737488355328,xs++ys)
 | .s,xs,⟨.s,ys⟩=>some (xs.length+ys.length<=8796093022208,xs++ys)
 | _,_,_=>none
def setE:(τ:Ty)->List τ.A->Int->RV->Option (List τ.A)
 | .i,xs,n,.v (.i m)=>some (xs.set n.toNat m)
 | .b,xs,n,.v (.b m)=>some (xs.set n.toNat m)
 | .y,xs,n,.v (.y m)=>some (xs.set n.toNat m)
 | _,_,_,_=>none
def awayR (j:Nat):RV->Bool
 | .A i _ _=>!Nat.beq i j
 | .W i _ _=>!Nat.beq i j
 | _=>true
def mask (x:BV):BV:=if x.scal then x else .u
def csLL (σ:St) (d t j:Nat):(τ:Ty)->List τ.A->RV->Option (Prop×St)
 | .l,xs,.A i .l ys=>bif Nat.beq t 75&&!Nat.beq i j then some (xs.length+ys.length<=5864062014805,(d,.v (.o .l (xs++ys)))::kill d (kill i (kill j σ))) else none
 | _,_,_=>none
def csSc (σ:St) (d t j:Nat) (τ:Ty) (xs:List τ.A) (r:RV):Option (Prop×St):=
 bif Nat.beq t τ.t&&awayR j r then (lsOf r).bind λl=>(catE τ xs l).bind λp=>some (p.1,(d,.v (.o τ p.2))::kill d (kill j σ)) else none
def Iu (σ:St) (d t:Nat):RV->RV->Option (Prop×St)
 | .A j τ xs,r=>match csLL σ d t j τ xs r with
  | some q=>some q
  | none=>csSc σ d t j τ xs r
 | _,_=>none
def caS:(q q':Tq)->q'.S->Option q.S
 | .m,.m,s=>some s
 | .n,.n,s=>some s
 | _,_,_=>none
def Qr (σ:St) (t i:Nat) (q:Tq):RV->Option (Prop×St)
 | .v (.h (.k q' s))=>bif Nat.beq t q.e then (caS q q' s).bind λr=>some (True,(i,.v (.h (.r q r)))::kill i σ) else none
 | _=>none
def csOp (σ:St) (ty:Nat):Option Nat->Op->Option (Prop×St)
 | some d,.assign x=>match rs σ x with
  | .A j τ xs=>some (True,(d,.v (.o τ xs))::kill d (kill j σ))
  | .v y=>some (True,(d,.v y)::kill d σ)
  | _=>match x with
   | .const (.slice none 0 0)=>(tyT ty).bind λτ=>some (True,(d,.v (.o τ []))::kill d σ)
   | _=>none
 | some d,.move x=>match rs σ x with
  | .t s xs=>bif xs.all (λx=>x.own||x.scal) then some (True,(d,.t xs)::kill d (kill s σ)) else none
  | _=>none
 | some d,.extract x k=>match rs σ x with
  | .t s xs=>match xs[k]? with
   | some (.o τ ys)=>bif Nat.beq s d then none else some (True,(d,.v (.o τ ys))::(s,.t (xs.map mask))::kill d (kill s σ))
   | _=>none
  | _=>none
 | none,.store t p x=>match rs σ p with
  | .q j τ xs n=>bif Nat.beq t τ.e then (setE τ xs n (rs σ x)).bind λys=>some (True,(j,.v (.o τ ys))::kill j σ) else none
  | .z i q=>Qr σ t i q (rs σ x)
  | _=>none
 | some d,.call { callee:=.builtin .append,args,argTypes }=>match args.toList,argTypes.toList with
  | [x,y],[t,t']=>bif Nat.beq t t' then Iu σ d t (rs σ x) (rs σ y) else none
  | _,_=>none
 | some d,.buildSlice 75 1 parts=>match parts.toList with
  | [(0,x)]=>match rs σ x with
   | .A j .i xs=>some (True,(d,.v (.o .l [xs]))::kill d (kill j σ))
   | _=>none
  | _=>none
 | _,_=>none
section
variable {a:Act} {d:Nat} {x y:Operand} {t ty t' nt:Nat} {p:String} {af:Array Edge} {g:Option (Nat×Bool)} {m n:Int} {w w' w0:World} {C:Prop} {z:AV} {b:Nat} {G:Nat->Prop} {O:Nat->Option Nat} {σ σ1 σ':St} {v:Value} {i j:Nat} {op:Op} {tm tm':Nat->Value} {o:Oper} {KK:Act->World->Prop} {Q:Exit->Act->World->Prop}
theorem RS.stable (R:RS b G w0 nt σ a w) (hG:∀ k,b<=k->G k) (ho:o.dst=some d) (hO:∀ O,RO b G O σ (λj=>a.tmps.getD j undef) w->Out b G O σ w a o z) (hf:free σ d=true) (hd:d<nt)
  (hK:∀ a' w',RS b G w0 nt ((d,z)::σ) a' w'->KK a' w'):Oper.wp Tryz.prog o a w KK Q:=by
 obtain ⟨O,H⟩:=R.ro;refine (hO O H).out KK Q λv w' hB hz=>hK _ _ ?_;rw [ho];refine ⟨H.put hG R.base hB hz hf λi=>KD (by rw [R.size];exact hd),?_,R.defers,Ez R.below R.base hB,WA R.base hB.size⟩;show (a.tmps.setIfInBounds d v).size=nt;rw [Array.size_setIfInBounds];exact R.size
theorem RS.after (R:RS b G w0 nt σ a w) (hd:d<nt) (hB:Below b w0 w') (hsz:w.heap.size<=w'.heap.size) (h:∀ tm',(∀ i,tm' i=if i=d then v else a.tmps.getD i undef)->RO b G O σ' tm' w'):RS b G w0 nt σ' (a.put (some d) v) w':=by
 refine ⟨⟨O,h _ λi=>KD (by rw [R.size];exact hd)⟩,?_,R.defers,hB,WA R.base hsz⟩;show (a.tmps.setIfInBounds d v).size=nt;rw [Array.size_setIfInBounds];exact R.size
theorem EX {K:Nat->Bool} (hd:K d=true) (h:∀ i,tm' i=if i=d then v else tm i):(∀ i,K i=false->tm' i=tm i)/\tm' d=v/\∀ i,K i=true->i≠d->tm' i=tm i:=
 ⟨λi hi=>by rw [h,if_neg (λe=>by rw [e,hd] at hi;cases hi)],by rw [h,if_pos rfl],λi _ hi=>by rw [h,if_neg hi]⟩
theorem RS.take (R:RS b G w0 nt σ a w) {τ:Ty} {xs:List τ.A} (hx:rs σ x=.A j τ xs) (hd:d<nt):RS b G w0 nt ((d,.v (.o τ xs))::kill d (kill j σ)) (a.put (some d) (a.eval x)) w:=by
 obtain ⟨O,H⟩:=R.ro;have hr:=CP H x;rw [hx] at hr;obtain ⟨h1,h2,h3⟩:=hr;refine R.after (O:=setO (takeO O λm=>Nat.beq m j||Nat.beq m d) d (a.eval x).ownBlock) hd R.below (Wn _) λtm' htm=>?_;obtain ⟨k1,k2,k3⟩:=EX (K:=λm=>Nat.beq m j||Nat.beq m d) (by simp [Nat.beq_refl]) htm;refine H.swapN ((Killed.one j).more d) (by simp [Nat.beq_refl]) (Wn _) (λ_ _ _=>rfl) (Kd.N_mono h2 λk hk=>hk.imp (λh=>h3.trans h) Fu) (λk hk=>.inr ⟨j,by simp [Nat.beq_refl],by rw [<- h3];exact hk⟩) k1 k2 k3
end

end
section
section
variable {a:Act} {d:Nat} {x y:Operand} {t ty t' nt:Nat} {p:String} {af:Array Edge} {g:Option (Nat×Bool)} {m n:Int} {w w' w0:World} {C:Prop} {z:AV} {b:Nat} {G:Nat->Prop} {O:Nat->Option Nat} {σ σ1 σ':St} {v:Value} {i j:Nat} {op:Op} {tm tm':Nat->Value} {o:Oper} {KK:Act->World->Prop} {Q:Exit->Act->World->Prop}
theorem RS.nil (R:RS b G w0 nt σ a w) (τ:Ty) (hd:d<nt):RS b G w0 nt ((d,.v (.o τ []))::kill d σ) (a.put (some d) (.slice none 0 0)) w:=by
 obtain ⟨O,H⟩:=R.ro;refine R.after (O:=setO (takeO O λm=>Nat.beq m d) d none) hd R.below (Wn _) λtm' htm=>?_;obtain ⟨k1,k2,k3⟩:=EX (K:=λm=>Nat.beq m d) (Nat.beq_refl d) htm;exact H.swapN (v:=.slice none 0 0) (Killed.one d) (Nat.beq_refl d) (Wn _) (λ_ _ _=>rfl) (Kd.N_nil _ _ _ _ _) (λk hk=>by cases hk) k1 k2 k3
theorem RS.over (R:RS b G w0 nt σ a w) {y:BV} (hx:rs σ x=.v y) (hd:d<nt):RS b G w0 nt ((d,.v y)::kill d σ) (a.put (some d) (a.eval x)) w:=by
 obtain ⟨O,H⟩:=R.ro;have hr:=CP H x;rw [hx] at hr;refine R.after (O:=setO (takeO O λm=>Nat.beq m d) d none) hd R.below (Wn _) λtm' htm=>?_;obtain ⟨k1,k2,k3⟩:=EX (K:=λm=>Nat.beq m d) (Nat.beq_refl d) htm;refine H.swap (z:=.v y) (v:=a.eval x) (Killed.one d) (Nat.beq_refl d) (Wn _) (λ_ _ _=>rfl) (λO' e1 e2=>?_) (λk hk=>by cases hk) (λk hk=>by cases hk) k1 k2 k3;have h2:=Gm (i:=0) (j:=d) hr.1 hr.2;exact Is (λ_ _ _=>rfl) (λk _ hk=>(e2 k (Fu hk)).resolve_left (by simp)) (λho=>by rw [hr.1] at ho;cases ho) h2
theorem VH {k:Nat} {xs:List BV} (h:rs σ x=.t k xs):x=.tmp k/\look σ k=some (.t xs):=by
 cases x with
 | tmp t=>
  simp only [rs] at h
  cases hl:look σ t with
  | none=>simp [hl] at h
  | some z=>
   simp only [hl] at h
   cases z with
   | v z=>cases z<;>simp [rsV] at h
   | a j=>simp only [rsV] at h;rcases JD h with h1 | ⟨τ',xs',h1,h2⟩<;>first | cases h1 | cases h2
   | q j n=>simp only [rsV] at h;rcases JD h with h1 | ⟨τ',xs',h1,h2⟩<;>first | cases h1 | cases h2
   | t ys=>simp only [rsV] at h;cases h;exact ⟨rfl,hl⟩
   | _=>simp [rsV] at h
 | const c=>simp only [rs] at h;cases c<;>simp [rsC] at h<;>(rename_i k _;cases k<;>simp at h)
 | _=>simp [rs] at h
theorem Sn {τ:BV} {O':Nat->Option Nat} {K:Nat->Bool} (h:bvr b G O w j τ v) (h1:O' d=O j) (h2:∀ k,fr G (takeO O K) k->O j=some k\/fr G O' k) (hs:τ.own=true\/τ.scal=true):bvr b G O' w d τ v:=by
 cases τ with
 | o t xs=>exact ⟨Kd.N_mono h.1 (λk hk=>hk.elim (λh=>.inl (h1.trans h)) (λh=>(h2 k (Fu h)).imp h1.trans id)),h.2.trans h1.symm⟩
 | f t xs=>rcases hs with hs | hs<;>cases hs
 | h x=>rcases hs with hs | hs<;>cases hs
 | _=>exact h
theorem RS.extract (R:RS b G w0 nt σ a w) {s k:Nat} {xs:List BV} {τ:Ty} {ys:List τ.A} (hx:rs σ x=.t s xs) (hk:xs[k]?=some (.o τ ys)) (hsd:s≠d) (hd:d<nt):∃ u,(execOp a.eval ⟨some d,.extract x k,ty,p,af,g⟩).run Tryz.prog w=.ok (.value u) w/\RS b G w0 nt ((d,.v (.o τ ys))::(s,.t (xs.map mask))::kill d (kill s σ)) (a.put (some d) u) w:=by
 obtain ⟨O,H⟩:=R.ro;obtain ⟨rfl,hl⟩:=VH hx;obtain ⟨arr,h1,h2,h3⟩:=H.val s _ hl;obtain ⟨u,hu,hv⟩:=h3 k _ hk;refine ⟨u,ex h1 hu,?_⟩;refine R.after (O:=setO (takeO O λm=>Nat.beq m s||Nat.beq m d) d u.ownBlock) hd R.below (Wn _) λtm' htm=>?_;obtain ⟨k1,k2,k3⟩:=EX (K:=λm=>Nat.beq m s||Nat.beq m d) (by simp [Nat.beq_refl]) htm;refine H.swapN (σ1:=(s,.t (xs.map mask))::kill d (kill s σ)) ⟨λm z hz=>?_,λm τ' zs hm hl'=>?_⟩ (by simp [Nat.beq_refl]) (Wn _) (λ_ _ _=>rfl) (Kd.N_mono hv.1 λk hk=>hk.imp (λh=>hv.2.trans h) Fu) (λk hk=>.inr ⟨s,by simp [Nat.beq_refl],by rw [<- hv.2];exact hk⟩) k1 k2 k3
 ·rw [Bm] at hz;split at hz
  ·rename_i hsm;subst hsm;cases hz;refine .inr (.inr ⟨by simp [Nat.beq_refl],λb' G' O' σ'' w'' tm'' i'=>⟨arr,h1,by rw [NO];exact h2,λk x hx=>?_⟩⟩);rw [List.getElem?_map] at hx;obtain ⟨x0,hx0,rfl⟩:=Option.map_eq_some_iff.1 hx;obtain ⟨u',hu',hv'⟩:=h3 k x0 hx0;refine ⟨u',hu',?_⟩;cases x0<;>first | exact hv' | trivial
  ·exact ((Killed.one (tm:=λj=>a.tmps.getD j undef) s).more d).out m z hz
 ·have hms:m≠s:=by
   simp only [Bool.or_eq_false_iff] at hm;exact C7.1 hm.1
  rw [Bm,if_neg (Ne.symm hms)];exact ((Killed.one (tm:=λj=>a.tmps.getD j undef) s).more d).own m τ' zs hm hl'
theorem RS.moveT (R:RS b G w0 nt σ a w) {s:Nat} {xs:List BV} (hx:rs σ x=.t s xs) (hok:xs.all (λx=>x.own||x.scal)=true) (hd:d<nt):RS b G w0 nt ((d,.t xs)::kill d (kill s σ)) (a.put (some d) (a.eval x)) w:=by
 obtain ⟨O,H⟩:=R.ro;obtain ⟨rfl,hl⟩:=VH hx;obtain ⟨arr,h1,h2,h3⟩:=H.val s _ hl;refine R.after (O:=setO (takeO O λm=>Nat.beq m s||Nat.beq m d) d (O s)) hd R.below (Wn _) λtm' htm=>?_;obtain ⟨k1,k2,k3⟩:=EX (K:=λm=>Nat.beq m s||Nat.beq m d) (by simp [Nat.beq_refl]) htm;refine H.swap (z:=.t xs) ((Killed.one s).more d) (by simp [Nat.beq_refl]) (Wn _) (λ_ _ _=>rfl) (λO' e1 e2=>?_) (λk hk=>H.old s k hk) (λk hk=>.inr ⟨s,by simp [Nat.beq_refl],hk⟩) k1 k2 k3;refine ⟨arr,h1,h2,λk x hx=>?_⟩;obtain ⟨u,hu,hv⟩:=h3 k x hx;refine ⟨u,hu,Sn hv e1 e2 ?_⟩;have:=List.all_eq_true.1 hok x (List.mem_of_getElem? hx);simpa using this
end

end
section
section
variable {a:Act} {d:Nat} {x y:Operand} {t ty t' nt:Nat} {p:String} {af:Array Edge} {g:Option (Nat×Bool)} {m n:Int} {w w' w0:World} {C:Prop} {z:AV} {b:Nat} {G:Nat->Prop} {O:Nat->Option Nat} {σ σ1 σ':St} {v:Value} {i j:Nat} {op:Op} {tm tm':Nat->Value} {o:Oper} {KK:Act->World->Prop} {Q:Exit->Act->World->Prop}
theorem RS.freeze (R:RS b G w0 nt σ a w) (hG:∀ k,b<=k->G k) {xs:List Int} (hx:rs σ x=.A j .i xs) (hd:d<nt) :
  ∃ v w',(execOp a.eval ⟨some d,.buildSlice 75 1 #[(0,x)],ty,p,af,g⟩).run Tryz.prog w=.ok (.value v) w'/\RS b G w0 nt ((d,.v (.o .l [xs]))::kill d (kill j σ)) (a.put (some d) v) w':=by
 obtain ⟨O,H⟩:=R.ro;have hr:=CP H x;rw [hx] at hr;obtain ⟨h1,h2,h3⟩:=hr;obtain ⟨A,c,e1,e2,e3⟩:=Kd.N_V (base':=b) h2
 have hO:∀ k,takeO O (λm=>Nat.beq m j||Nat.beq m d) k≠some w.heap.size:=λk e=>by
  unfold takeO at e
  cases hK:(Nat.beq k j||Nat.beq k d) with
  | true=>simp only [hK,cond_true] at e;cases e
  | false=>simp only [hK,cond_false] at e;have:=H.old k _ e;omega
 have hown:∀ k,O j=some k->fr G (takeO O λm=>Nat.beq m j||Nat.beq m d) k:=λk hk=>⟨hG k (Kd.N_base h2 k (h3.trans hk)),λm e=>by
  unfold takeO at e
  cases hK:(Nat.beq m j||Nat.beq m d) with
  | true=>simp only [hK,cond_true] at e;cases e
  | false=>
   simp only [hK,cond_false] at e;have:=H.inj m j k e hk;rw [this,Nat.beq_refl] at hK
   cases hK⟩
 have hN:=nlit (b:=b) (G:=G) (O:=takeO O λm=>Nat.beq m j||Nat.beq m d) (w:=w) .l [xs] [.slice A xs.length c] rfl (λu hu=>by rw [Wx.1 hu];rfl) (λk q u hq hu=>by
  rcases k with _ | k
  ·simp only [List.getElem?_cons_zero,AT] at hq hu;subst hq;subst hu;exact Kd.FK_slice_mk e2 (Kd.F_mono e3 λk hk=>hk.elim (hown k) Fu)
  ·simp at hq) R.base ⟨hG _ R.base,hO⟩ (by unfold maxLen;simp)
 have hrun:=bl1 (ρ:=a.eval) (d:=some d) (ty:=ty) (p:=p) (af:=af) (g:=g) (w:=w) e1;refine ⟨_,_,hrun,?_⟩;have hB:=Ad (WG w.heap.size w) (.cells #[.slice A xs.length c] 32);refine R.after (O:=setO (takeO O λm=>Nat.beq m j||Nat.beq m d) d (some w.heap.size)) hd (Ez R.below R.base hB) hB.size λtm' htm=>?_;obtain ⟨k1,k2,k3⟩:=EX (K:=λm=>Nat.beq m j||Nat.beq m d) (by simp [Nat.beq_refl]) htm;exact H.swapN (w':=w.alloc (.cells #[.slice A xs.length c] 32)) (v:=.slice (some ⟨w.heap.size,0,none⟩) 1 1) ((Killed.one j).more d) (by simp [Nat.beq_refl]) hB.size (λk hk _=>hB.block k hk) (Kd.N_mono hN.1 λk hk=>.inr hk) (λk hk=>.inl (hN.2 k hk)) k1 k2 k3
theorem Tj {τ:Ty} {xs ys:List τ.A} {r:RV} {n:Int} (h:setE τ xs n r=some ys) (hr:rvr b G O w tm r v):∃ q:τ.A,ys=xs.set n.toNat q/\v.cells.toList=[v]/\v.oneCell'=true/\∀ ok w',Kd.FK τ.d w' ok q [v]:=by
 unfold setE at h;split at h
 ·cases h;obtain rfl:=hr.2;exact ⟨_,rfl,rfl,rfl,λ_ _ _ _=>rfl⟩
 ·cases h;obtain rfl:=hr.2;exact ⟨_,rfl,rfl,rfl,λ_ _ _ _=>rfl⟩
 ·cases h;obtain rfl:=hr.2;exact ⟨_,rfl,rfl,rfl,λ_ _ _ _=>rfl⟩
 ·cases h
def QN (KK:Act->World->Prop):Exit->Act->World->Prop
 | .normal,a,w=>KK a w
 | _,_,_=>False
theorem P2 {next next':Act->World->Prop} {Q Q':Exit->Act->World->Prop} (hn:∀ a w,next a w->next' a w) (hp:∀ ch a w,Q (.panic ch) a w->Q' (.panic ch) a w) (hq:∀ a w,Q .outgrown a w->Q' .outgrown a w) (r:Result Next) (h:o.upon Tryz.prog a next Q r):o.upon Tryz.prog a next' Q' r:=by
 cases r with
 | ok x w=>
  cases x with
  | value v=>exact hn _ _ h
  | skip=>exact hn _ _ h
  | defer d=>exact hn _ _ h
  | enter f args=>
   rw [Oper.upon_enter] at h ⊢;refine h.mono λe w' he=>?_
   cases e with
   | returned v=>exact hn _ _ he
   | panicked ch=>exact hp _ _ _ he
   | outgrown=>obtain ⟨a,w,he⟩:=he;exact ⟨a,w,hq _ _ he⟩
  | row row args=>
   rw [Oper.upon_row] at h ⊢
   exact h.mono λv w' he=>hn _ _ he
  | _=>exact h.elim
 | halt x w=>
  cases x with
  | panic v=>exact hp _ _ _ h
  | _=>exact h.elim
theorem Tb {ops:Array Oper} (h:wpList Tryz.prog ops (QN KK) [o] a w) (hg:o.guard=none):Oper.wp Tryz.prog o a w KK Q:=by
 unfold wpList at h;rw [if_pos (by simp [Region.wanted,hg])] at h;rcases h with h | ⟨_,a',w',h⟩
 ·exact P2 (λa w h=>h) (λ_ _ _ h=>h.elim) (λ_ _ h=>h.elim) _ h
 ·exact h.elim
theorem isz (τ:Ty):(Tryz.prog.info? τ.e).map (·.size)=some 1:=by cases τ<;>kernel_rfl
theorem RS.store (R:RS b G w0 nt σ a w) {τ:Ty} {xs ys:List τ.A} (hx:rs σ x=.q j τ xs n) (hy:setE τ xs n (rs σ y)=some ys) (hK:∀ a' w',RS b G w0 nt ((j,.v (.o τ ys))::kill j σ) a' w'->KK a' w') :
  Oper.wp Tryz.prog ⟨none,.store τ.e x y,ty,p,af,g⟩ a w KK Q:=by
 obtain ⟨O,H⟩:=R.ro;have hr:=CP H x;have hs:=CP H y;rw [hx] at hr;obtain ⟨h1,h2,h3,h4,gb,cap,h5,h6⟩:=hr;obtain ⟨q,rfl,e1,e2,e3⟩:=Tj hy hs;rw [h5] at h3 h4;obtain ⟨c,hcl,hFK,hcc⟩:=Kd.N_get h3 τ.z n h1 h2
 have key:=Kd.N_store (P:=Tryz.prog) (ops:=#[]) (Q:=QN KK) (a:=a) (rest:=[]) (o:=⟨none,.store τ.e x y,ty,p,af,none⟩) τ.d (w0:=w0) (W:=w) b rfl rfl τ.e x y rfl τ.e (g:=gb) (n:=xs.length) (cap:=cap) (o':=n.toNat) n 0 xs q (a.eval y) [a.eval y] c (λk=>O j=some k\/fr G O k) (λ_=>False)
  h6 (by rw [τ.sz1];omega) rfl e1 (isz τ) (λu hu=>by rw [Wx.1 hu];exact e2) h3 h1 h2 hcl (λj u hj=>by have:=hcc j u hj;rwa [G8] at this) (by rw [τ.sz1];exact Wn _)
  (by
   have:c.take 0++[a.eval y]++c.drop (0+[a.eval y].length)=[a.eval y]:=by
    rw [WE,List.drop_of_length_le (by rw [hcl,τ.sz1];simp)];rfl
   rw [this]
   exact e3 _ _) (λ_ hk=>hk.elim) R.below
  (λw1 k1 k2 k3=>?_)
 ·have:=Tb (Q:=Q) key rfl;exact this
 ·have h5:a.tmps.getD j undef=.slice (some ⟨gb,0,none⟩) xs.length cap:=h5;have ho:(a.tmps.getD j undef).ownBlock=O j:=by rw [h5];exact h4
  have hg':O j=some gb:=h4.symm;refine hK a w1 ⟨⟨setO (takeO O λm=>Nat.beq m j) j (a.tmps.getD j undef).ownBlock,?_⟩,R.size,R.defers,k2,WA R.base k3.size⟩
  exact H.swapN (v:=a.tmps.getD j undef) (Killed.one j) (Nat.beq_refl j) k3.size (λk hk hne=>k3.block k hk (λe=>hne j (Nat.beq_refl j) (by rw [hg',e]))) (by
   rw [h5]
   exact Kd.N_mono k1 λk hk=>hk.imp (λh=>h4.trans h) Fu) (λk hk=>.inr ⟨j,Nat.beq_refl j,by rw [<- ho];exact hk⟩) (λ_ _=>rfl) rfl (λ_ _ _=>rfl)
end

end
section
section
variable {a:Act} {d:Nat} {x y:Operand} {t ty t' nt:Nat} {p:String} {af:Array Edge} {g:Option (Nat×Bool)} {m n:Int} {w w' w0:World} {C:Prop} {z:AV} {b:Nat} {G:Nat->Prop} {O:Nat->Option Nat} {σ σ1 σ':St} {v:Value} {i j:Nat} {op:Op} {tm tm':Nat->Value} {o:Oper} {KK:Act->World->Prop} {Q:Exit->Act->World->Prop} {K:Nat->Bool}
theorem RS.append (R:RS b G w0 nt σ a w) (hG:∀ k,b<=k->G k) {τ:Ty} {xs ys:List τ.A} (hx:rs σ x=.A j τ xs) (hd:d<nt) (hl:(xs.length+ys.length)*τ.by<=140737488355328)
  (K:Nat->Bool) (hKd:K d=true) (hKj:K j=true) (hk:∀ tm,Killed K σ σ1 tm)
  (okp:(Nat->Option Nat)->Nat->Prop) (hy:∀ O,RO b G O σ (λj=>a.tmps.getD j undef) w->Kd.V τ.d τ.e w b (okp O) (a.eval y) ys/\∀ k,okp O k->O j≠some k/\(τ=.l->fr G (takeO O K) k))
  (hK:∀ a' w',RS b G w0 nt ((d,.v (.o τ (xs++ys)))::σ1) a' w'->KK a' w') :
  Oper.wp Tryz.prog ⟨some d,.call { callee:=.builtin .append,args:=#[x,y],argTypes:=#[τ.t,τ.t] },ty,p,af,g⟩ a w KK Q:=by
 obtain ⟨O,H⟩:=R.ro;have hr:=CP H x;rw [hx] at hr;obtain ⟨h1,h2,h3⟩:=hr;obtain ⟨⟨A,c,e1,e2,e3⟩,e4⟩:=hy O H
 have hown:∀ k,O j=some k->fr G (takeO O K) k:=λk hk=>⟨hG k (Kd.N_base h2 k (h3.trans hk)),λm e=>by
  unfold takeO at e
  cases hK:K m with
  | true=>rw [hK] at e;cases e
  | false=>
   rw [hK] at e;have:=H.inj m j k e hk;rw [this,hKj] at hK
   cases hK⟩
 have hfresh:∀ k,w.heap.size<=k->fr G (takeO O K) k:=λk hk=>⟨hG k (by have:=R.base;omega),λm e=>by
  unfold takeO at e
  cases hK:K m with
  | true=>rw [hK] at e;cases e
  | false=>rw [hK] at e;have:=H.old m k e;omega⟩
 have fin:∀ v1 w1,Kd.N τ.d τ.e w1 b (λk=>τ=.l->fr G (takeO O K) k) v1 (xs++ys)->Below b w0 w1->w.grownBy w1 (a.eval x).ownBlock->((a.eval x).ownBlock=v1.ownBlock\/∃ q,v1.ownBlock=some q/\w.heap.size<=q)->KK (a.put (some d) v1) w1:=by
  intro v1 w1 k1 k2 k3 k4;refine hK _ _ (R.after (O:=setO (takeO O K) d v1.ownBlock) hd k2 k3.size λtm' htm=>?_);obtain ⟨l1,l2,l3⟩:=EX hKd htm
  have hb1:∀ k,v1.ownBlock=some k->w.heap.size<=k\/∃ m,K m=true/\O m=some k:=λk hk=>by
   rcases k4 with k4 | ⟨q,k4,k5⟩
   ·exact .inr ⟨j,hKj,by rw [<- h3,k4];exact hk⟩
   ·rw [k4] at hk;cases hk;exact .inl k5
  refine H.swapN (hk _) hKd k3.size (λk hk hne=>k3.block k hk (λe=>hne j hKj (by rw [<- h3,e]))) ?_ hb1 l1 l2 l3;by_cases hτ:τ=.l
  ·exact Kd.N_mono k1 λk hk=>.inr (hk hτ)
  ·exact TY hτ k1 λk hk=>.inl hk
 have key:=Kd.N_append_rows_step (P:=Tryz.prog) (ops:=#[]) (Q:=Q) (Kc:=KK) (a:=a) (o:=⟨some d,.call { callee:=.builtin .append,args:=#[x,y],argTypes:=#[τ.t,τ.t] },ty,p,af,none⟩) τ.d (w0:=w0) (W:=w) b rfl x y τ.t τ.e τ.zv τ.by rfl (und τ)
  (by rw [τ.sz1];exact inf τ) (by rw [τ.sz1];cases τ<;>rfl) (by rw [τ.sz1];exact Nat.one_pos) (by cases τ<;>decide) (a.eval x) xs ys A ys.length c (λk=>τ=.l->fr G (takeO O K) k) (okp O) rfl e1
  (Kd.N_mono h2 λk hk _=>hk.elim (hown k) Fu) e3 (λk hk=>⟨(e4 k hk).2,λe=>(e4 k hk).1 (by rw [<- h3,e])⟩) (λk hk _=>hfresh k hk) R.below R.base hl
  (λv1 w1 k1 k2 k3 k4=>fin v1 w1 k1 k2 k3 (k4.imp Eq.symm id))
 split at key
 ·exact key
 ·rename_i hn;exact absurd rfl hn
theorem Qk (H:RO b G O σ tm w) {r:RV} {τ:Ty} {ys:List τ.A} (hr:rvr b G O w tm r v) (hl:lsOf r=some ⟨τ,ys⟩) (hj:awayR j r=true):Kd.V τ.d τ.e w b (λk=>O j≠some k) v ys:=by
 have away:∀ i,(!Nat.beq i j)=true->∀ k,O i=some k\/fr G O k->O j≠some k:=λi hi k hk e=>by
  rcases hk with hk | hk
  ·have:=H.inj i j k hk e;rw [this,Nat.beq_refl] at hi;cases hi
  ·exact hk.2 j e
 cases r with
 | v x=>
  cases x with
  | f t xs=>cases hl;exact Kd.V_mono (e:=τ.e) (base:=b) hr.2 λk hk=>hk.2 j
  | _=>cases hl
 | A i t xs=>cases hl;exact Kd.V_mono (e:=τ.e) (base:=b) (Kd.N_V hr.2.1) (away i hj)
 | W i t xs=>cases hl;exact Kd.V_mono (e:=τ.e) (base:=b) hr (away i hj)
 | _=>cases hl
theorem Sp {τ:Ty} {xs:List τ.A} {l:LV} {q:Prop×List τ.A} (h:catE τ xs l=some q):τ≠.l/\∃ ys:List τ.A,l=⟨τ,ys⟩/\q.2=xs++ys/\(q.1->(xs.length+ys.length)*τ.by<=140737488355328):=by
 unfold catE at h;split at h
 ·cases h;exact ⟨by simp,_,rfl,rfl,λh=>by simp only [Ty.by];omega⟩
 ·cases h;exact ⟨by simp,_,rfl,rfl,λh=>by simp only [Ty.by];omega⟩
 ·cases h;exact ⟨by simp,_,rfl,rfl,λh=>by simp only [Ty.by];omega⟩
 ·cases h;exact ⟨by simp,_,rfl,rfl,λh=>by simp only [Ty.by];omega⟩
 ·cases h
theorem Nu (R:RS b G w0 nt σ a w) (hG:∀ k,b<=k->G k) (h:Iu σ d t (rs σ x) (rs σ y)=some (C,σ')) (hC:C) (hd:d<nt) (hK:∀ a' w',RS b G w0 nt σ' a' w'->KK a' w') :
  Oper.wp Tryz.prog ⟨some d,.call { callee:=.builtin .append,args:=#[x,y],argTypes:=#[t,t] },ty,p,af,g⟩ a w KK Q:=by
 unfold Iu at h;split at h
 ·rename_i j τ xs hx
  cases hq:csLL σ d t j τ xs (rs σ y) with
  | some q=>
  rw [hq] at h;cases h;unfold csLL at hq;split at hq
  ·rename_i xs i ys hy
   cases ht:Nat.beq t 75&&!Nat.beq i j with
   | false=>rw [ht] at hq;cases hq
   | true=>
   rw [ht] at hq;obtain ⟨rfl,rfl⟩:=In (AS hq);simp only [Bool.and_eq_true,Bool.not_eq_true'] at ht;obtain rfl:=Nat.eq_of_beq_eq_true ht.1;refine R.append hG (τ:=.l) (ys:=ys) hx hd (by simp only [Ty.by];omega) (λm=>(Nat.beq m j||Nat.beq m i)||Nat.beq m d) (by simp [Nat.beq_refl]) (by simp [Nat.beq_refl]) (λtm=>((Killed.one j).more i).more d) (λO k=>O i=some k\/fr G O k) (λO H=>?_) hK;have hs:=CP H y;rw [hy] at hs;obtain ⟨k1,k2,k3⟩:=hs;refine ⟨Kd.N_V k2,λk hk=>⟨λe=>?_,λ_=>?_⟩⟩
   ·rcases hk with hk | hk
    ·have:=H.inj i j k hk e;exact C7.1 ht.2 this
    ·exact hk.2 j e
   ·rcases hk with hk | hk
    ·refine ⟨hG k (Kd.N_base k2 k (k3.trans hk)),λm e=>?_⟩;unfold takeO at e
     cases hK:(Nat.beq m j||Nat.beq m i)||Nat.beq m d with
     | true=>simp only [hK,cond_true] at e;cases e
     | false=>
      simp only [hK,cond_false] at e;have:=H.inj m i k e hk;rw [this] at hK;simp [Nat.beq_refl] at hK
    ·exact Fu hk
  ·cases hq
  | none=>
  rw [hq] at h;unfold csSc at h
  cases ht:Nat.beq t τ.t&&awayR j (rs σ y) with
  | false=>rw [ht] at h;cases h
  | true=>
   rw [ht] at h;simp only [Bool.and_eq_true] at ht;obtain rfl:=Nat.eq_of_beq_eq_true ht.1;obtain ⟨l,hl,h⟩:=By.1 h;obtain ⟨q,hq,h⟩:=By.1 h;obtain ⟨rfl,rfl⟩:=In (AS h);obtain ⟨hτ,ys,rfl,hq2,hlen⟩:=Sp hq;rw [hq2] at hK;exact R.append hG (ys:=ys) hx hd (hlen hC) (λm=>Nat.beq m j||Nat.beq m d) (by simp [Nat.beq_refl]) (by simp [Nat.beq_refl]) (λtm=>(Killed.one j).more d) (λO k=>O j≠some k) (λO H=>⟨Qk H (CP H y) hl ht.2,λk hk=>⟨hk,λe=>absurd e hτ⟩⟩) hK
 ·cases h
end
section
variable {ρ:Operand->Value} {d:Option Nat} {x y:Operand} {t ty t':Nat} {p:String} {af:Array Edge} {g:Option (Nat×Bool)} {w:World}
theorem stq (q:Tq) {gb:Nat} {A:Option Addr} {l c:Nat} {k:Int} {c0 c1:Value} (hx:ρ x=.pointer (some ⟨gb,0,none⟩)) (hy:ρ y=.agg #[.int .u8 k,.slice A l c]) (hb:w.heap[gb]?=some (.cells #[c0,c1] q.e (0,0))):(execOp ρ ⟨none,.store q.e x y,ty,p,af,g⟩).run Tryz.prog w=.ok .skip ((w.setCell ⟨gb,0,none⟩ (.int .u8 k)).setCell ⟨gb,1,none⟩ (.slice A l c)):=by
 have e0:=Ak hb 0;have e1:=Ak hb 1;have f0:=AD hb 0;have f1:=AD hb 1;have h2:=Iq hb 0 (.int .u8 k);have e2:=Ak h2 1;have f2:=AD h2 1;cases q<;>simp [go_sem,execOp,hx,hy,Tq.e,e0,e1,f0,f1,e2,f2]
end
section
variable {a:Act} {d:Nat} {x y:Operand} {t ty t' nt:Nat} {p:String} {af:Array Edge} {g:Option (Nat×Bool)} {m n:Int} {w w' w0:World} {C:Prop} {z:AV} {b:Nat} {G:Nat->Prop} {O:Nat->Option Nat} {σ σ1 σ':St} {v:Value} {i j:Nat} {tm tm':Nat->Value} {K:Nat->Bool} {KK:Act->World->Prop} {Q:Exit->Act->World->Prop}
theorem Wg {k:Nat} {q:Tq} (h:rs σ x=.z k q):look σ k=some (.z q)/\x=.tmp k:=by
 cases x with
 | tmp t=>
  simp only [rs] at h
  cases hl:look σ t with
  | none=>simp [hl] at h
  | some z=>
   simp only [hl] at h
   cases z with
   | v z=>cases z<;>simp [rsV] at h
   | a j=>simp only [rsV] at h;rcases JD h with h1 | ⟨τ',xs',h1,h2⟩<;>first | cases h1 | cases h2
   | q j n=>simp only [rsV] at h;rcases JD h with h1 | ⟨τ',xs',h1,h2⟩<;>first | cases h1 | cases h2
   | z q'=>simp only [rsV] at h;cases h;exact ⟨hl,rfl⟩
   | _=>simp [rsV] at h
 | const c=>simp only [rs] at h;cases c<;>simp [rsC] at h<;>(rename_i k _;cases k<;>simp at h)
 | _=>simp [rs] at h
theorem RS.fill (R:RS b G w0 nt σ a w) (hG:∀ k,b<=k->G k) {q:Tq} {r:q.S} (hx:rs σ x=.z i q) (hy:rs σ y=.v (.h (.k q r))) (hK:∀ a' w',RS b G w0 nt ((i,.v (.h (.r q r)))::kill i σ) a' w'->KK a' w') :
  Oper.wp Tryz.prog ⟨none,.store q.e x y,ty,p,af,g⟩ a w KK Q:=by
 obtain ⟨O,H⟩:=R.ro;obtain ⟨hl,rfl⟩:=Wg hx;obtain ⟨gb,h1,h2,h3,h4⟩:=H.val i _ hl;have hr:=CP H y;rw [hy] at hr;obtain ⟨A,c,e1,e2,e3⟩:=hr.2;have hrun:=stq (ρ:=a.eval) (ty:=ty) (p:=p) (af:=af) (g:=g) q (x:=.tmp i) h2 e1 h3;have hK2:=hK a ((w.setCell ⟨gb,0,none⟩ (.int .u8 (q.f0 r))).setCell ⟨gb,1,none⟩ (.slice A (q.f1 r).length c));have hb1:=Iq (Iq h3 0 (.int .u8 (q.f0 r))) 1 (.slice A (q.f1 r).length c)
 have hoth:∀ k,k≠gb->((w.setCell ⟨gb,0,none⟩ (.int .u8 (q.f0 r))).setCell ⟨gb,1,none⟩ (.slice A (q.f1 r).length c)).heap[k]?=w.heap[k]?:=λk hk=>
  (Below.heap_setCell _ ⟨gb,1,none⟩ _ k hk).trans (Below.heap_setCell w ⟨gb,0,none⟩ _ k hk)
 have hbel:Below b w0 ((w.setCell ⟨gb,0,none⟩ (.int .u8 (q.f0 r))).setCell ⟨gb,1,none⟩ (.slice A (q.f1 r).length c)):=(R.below.setCell (p:=⟨gb,0,none⟩) h4 _).setCell (p:=⟨gb,1,none⟩) h4 _;unfold Oper.wp;rw [hrun];generalize hw1:((w.setCell ⟨gb,0,none⟩ (.int .u8 (q.f0 r))).setCell ⟨gb,1,none⟩ (.slice A (q.f1 r).length c))=w1 at hK2 hb1 hoth hbel;have hsz:w.heap.size<=w1.heap.size:=by rw [<- hw1];simp [World.setCell]
 obtain ⟨k1,k2,k3⟩:=EX (K:=λm=>Nat.beq m i) (tm:=λj=>a.tmps.getD j undef) (tm':=λj=>a.tmps.getD j undef) (v:=.pointer (some ⟨gb,0,none⟩)) (d:=i) (Nat.beq_refl i) (λj=>by
  by_cases hj:j=i
  ·rw [if_pos hj,hj];exact h2
  ·rw [if_neg hj])
 have hne:∀ k,fr G (takeO O λm=>Nat.beq m i) k->∀ O':Nat->Option Nat,O' i=none->(∀ k,fr G (takeO O λm=>Nat.beq m i) k->none=some k\/fr G O' k)->fr G O' k:=λk hk O' _ h=>(h k hk).resolve_left (λe=>by cases e);refine hK2 ⟨⟨_,H.swap (z:=.v (.h (.r q r))) (blk:=none) (v:=.pointer (some ⟨gb,0,none⟩)) (Killed.one i) (Nat.beq_refl i) hsz (λk hlt hk=>hoth k λe=>hk i (Nat.beq_refl i) (by rw [h1,e])) (λO' o1 o2=>?_) (λk hk=>by cases hk) (λk hk=>by cases hk) k1 k2 k3⟩,R.size,R.defers,hbel,WA R.base hsz⟩
 have hg:fr G O' gb:=(o2 gb ⟨hG gb h4,λm e=>by
  unfold takeO at e
  cases hm:Nat.beq m i with
  | true=>simp only [hm,cond_true] at e;cases e
  | false=>
   simp only [hm,cond_false] at e
   exact C7.1 hm (H.inj m i gb e h1)⟩).resolve_left (λe=>by cases e)
 refine ⟨_,A,c,rfl,hg,(Ak hb1 0).trans rfl,(Ak hb1 1).trans rfl,e2,R6 e3 (λk _ hk=>hoth k λe=>hk.2 i (by rw [h1,e])) (λk _ hk=>(o2 k (Fu hk)).resolve_left (λe=>by cases e))⟩
end

end
section
section
variable {a:Act} {d:Nat} {x y:Operand} {t ty t' nt:Nat} {p:String} {af:Array Edge} {g:Option (Nat×Bool)} {m n:Int} {w w' w0:World} {C:Prop} {z:AV} {b:Nat} {G:Nat->Prop} {O:Nat->Option Nat} {σ σ1 σ':St} {v:Value} {i j:Nat} {op:Op} {tm tm':Nat->Value} {o:Oper} {KK:Act->World->Prop} {Q:Exit->Act->World->Prop} {K:Nat->Bool}
theorem RS.of_run (R:RS b G w0 nt σ a w) (hrun:(execOp a.eval o).run Tryz.prog w=.ok (.value v) w') (hK:KK (a.put o.dst v) w'):Oper.wp Tryz.prog o a w KK Q:=by
 unfold Oper.wp;rw [hrun];exact hK
theorem Ud (R:RS b G w0 nt σ a w) (hG:∀ k,b<=k->G k) {ds:Option Nat} (h:csOp σ ty ds op=some (C,σ')) (hC:C) (hd:∀ d,ds=some d->d<nt) (hK:∀ a' w',RS b G w0 nt σ' a' w'->KK a' w'):Oper.wp Tryz.prog ⟨ds,op,ty,p,af,g⟩ a w KK Q:=by
 unfold csOp at h;split at h
 ·rename_i d x;split at h
  ·rename_i j τ xs hx;obtain ⟨rfl,rfl⟩:=In (AS h);exact R.of_run (v:=a.eval x) rfl (hK _ _ (R.take hx (hd d rfl)))
  ·rename_i y hx;obtain ⟨rfl,rfl⟩:=In (AS h);exact R.of_run (v:=a.eval x) rfl (hK _ _ (R.over hx (hd d rfl)))
  ·split at h
   ·obtain ⟨τ,_,h⟩:=By.1 h;obtain ⟨rfl,rfl⟩:=In (AS h);exact R.of_run (v:=.slice none 0 0) rfl (hK _ _ (R.nil τ (hd d rfl)))
   ·cases h
 ·rename_i d x;split at h
  ·rename_i s xs hx
   cases hok:xs.all (λx=>x.own||x.scal) with
   | false=>rw [hok] at h;cases h
   | true=>
    rw [hok] at h;obtain ⟨rfl,rfl⟩:=In (AS h);exact R.of_run (v:=a.eval x) rfl (hK _ _ (R.moveT hx hok (hd d rfl)))
  ·cases h
 ·rename_i d x k;split at h
  ·rename_i s xs hx;split at h
   ·rename_i τ ys hk
    cases hs:Nat.beq s d with
    | true=>rw [hs] at h;cases h
    | false=>
     rw [hs] at h;obtain ⟨rfl,rfl⟩:=In (AS h);obtain ⟨u,h1,h2⟩:=R.extract (ty:=ty) (p:=p) (af:=af) (g:=g) hx hk (C7.1 hs) (hd d rfl);exact R.of_run h1 (hK _ _ h2)
   ·cases h
  ·cases h
 ·rename_i t p' x;split at h
  ·rename_i j τ xs n hx
   cases ht:Nat.beq t τ.e with
   | false=>rw [ht] at h;cases h
   | true=>
    rw [ht] at h;obtain rfl:=Nat.eq_of_beq_eq_true ht;obtain ⟨ys,hy,h⟩:=By.1 h;obtain ⟨rfl,rfl⟩:=In (AS h);exact R.store hx hy hK
  ·rename_i i q hx;unfold Qr at h;split at h
   ·rename_i q' s hy
    cases ht:Nat.beq t q.e with
    | false=>rw [ht] at h;cases h
    | true=>
     rw [ht] at h;obtain rfl:=Nat.eq_of_beq_eq_true ht;obtain ⟨r,hc,h⟩:=By.1 h;obtain ⟨rfl,rfl⟩:=In (AS h)
     have hqr:rs σ x=.v (.h (.k q r)):=by
      cases q<;>cases q'<;>simp only [caS,AT,reduceCtorEq] at hc<;>subst hc<;>exact hy
     exact R.fill hG hx hqr hK
   ·cases h
  ·cases h
 ·rename_i d args ats;split at h
  ·rename_i x y t t' ha hat;obtain rfl:args=#[x,y]:=by rw [<- Array.toArray_toList (xs:=args),ha]
   obtain rfl:ats=#[t,t']:=by rw [<- Array.toArray_toList (xs:=ats),hat]
   cases ht:Nat.beq t t' with
   | false=>rw [ht] at h;cases h
   | true=>
    rw [ht] at h;obtain rfl:=Nat.eq_of_beq_eq_true ht;exact Nu R hG h hC (hd d rfl) hK
  ·cases h
 ·rename_i d parts;split at h
  ·rename_i x hp;obtain rfl:parts=#[(0,x)]:=by rw [<- Array.toArray_toList (xs:=parts),hp]
   split at h
   ·rename_i j xs hx;obtain ⟨rfl,rfl⟩:=In (AS h);obtain ⟨v,w',h1,h2⟩:=R.freeze (ty:=ty) (p:=p) (af:=af) (g:=g) hG hx (hd d rfl);exact R.of_run h1 (hK _ _ h2)
   ·cases h
  ·cases h
 ·cases h
end
inductive Sb (σ:St) (op:Op):AV->Prop
 | sv {C z} (h:sv (rs σ) op=some (C,z)) (hC:C):Sb σ op z
 | pick {c x y q r} (ho:op=.pick c x y) (hc:rs σ c=.v (.b q)) (hx:rs σ (if q then x else y)=.v (.b r)):Sb σ op (.v (.b r))
 | call {f args ats ins res} (ho:op=.call { callee:=.value (.func f),args:=args,argTypes:=ats }) (ha:F4 (rs σ) args.toList=some ins) (hc:Ct f ins res) (h1:tupOk res=true)
   (hcl:args.toList.any (λx=>isA (rs σ x))=false\/res.all BV.clean=true):Sb σ op (resOf res)
def gd (σ:St) (ops:List Oper):Option (Nat×Bool)->Option Bool
 | none=>some true
 | some (k,want)=>match ops[k]? with
  | some o=>match o.dst with
   | some d=>match look σ d with
    | some (.v (.b q))=>some (q==want)
    | some (.v .vd)=>some false
    | _=>none
   | none=>none
  | none=>none
def frz (k:Nat) (σ:St):St:=match look σ k with
 | some (.v (.o t xs))=>(k,.v (.f t xs))::kill k σ
 | _=>σ
inductive Stp (nt:Nat) (ops:List Oper) (o:Oper):St->St->Prop
 | sb {σ d z} (hg:gd σ ops o.guard=some true) (hd:o.dst=some d) (h:Sb σ o.op z) (hf:free σ d=true) (hn:d<nt):Stp nt ops o σ ((d,z)::σ)
 | off {σ d} (hg:gd σ ops o.guard=some false) (hd:o.dst=some d) (hf:free σ d=true) (hn:d<nt):Stp nt ops o σ ((d,.v .vd)::σ)
 | fz {σ σ1} (k:Nat) (h:Stp nt ops o (frz k σ) σ1):Stp nt ops o σ σ1
 | fi {σ i q r y t} (hg:gd σ ops o.guard=some true) (hd:o.dst=none) (ho:o.op=.store t (.tmp i) y) (ht:t=q.e) (hl:look σ i=some (.z q)) (hy:rs σ y=.v (.h (.k q r))):Stp nt ops o σ ((i,.v (.h (.r q r)))::σ)
 | cs {σ C σ'} (hg:gd σ ops o.guard=some true) (hn:∀ d,o.dst=some d->d<nt) (h:csOp σ o.type o.dst o.op=some (C,σ')) (hC:C):Stp nt ops o σ σ'
section
variable {a:Act} {d:Nat} {x y:Operand} {t ty t' nt:Nat} {p:String} {af:Array Edge} {g:Option (Nat×Bool)} {m n:Int} {w w' w0:World} {C:Prop} {z:AV} {b:Nat} {G:Nat->Prop} {O:Nat->Option Nat} {σ σ1 σ':St} {v:Value} {i j:Nat} {op:Op} {tm tm':Nat->Value} {o:Oper} {KK:Act->World->Prop} {Q:Exit->Act->World->Prop} {K:Nat->Bool} {ops:List Oper}
theorem OB (H:RO b G O σ (λj=>a.tmps.getD j undef) w) {q:Bool} (h:gd σ ops o.guard=some q):Region.wanted o (yielded ops.toArray a.tmps)=q:=by
 cases hg:o.guard with
 | none=>rw [hg] at h;cases h;simp [Region.wanted,hg]
 | some kw=>
  obtain ⟨k,want⟩:=kw;rw [hg] at h;simp only [gd] at h
  cases hk:ops[k]? with
  | none=>simp [hk] at h
  | some ok=>
  simp only [hk] at h
  cases hd:ok.dst with
  | none=>simp [hd] at h
  | some d=>
  simp only [hd] at h;split at h
  ·rename_i q' hl;cases h;have hv:a.tmps.getD d undef=.bool q':=H.val d _ hl
   have hy:yielded ops.toArray a.tmps k=some q':=by
    unfold yielded;have h1:ops.toArray[k]?=some ok:=by simpa using hk
    rw [h1];simp only [AI,hd]
    have h2:a.tmps[d]?=some (.bool q'):=by
     rw [Array.getD_eq_getD_getElem?] at hv
     cases hq:a.tmps[d]? with
     | none=>rw [hq] at hv;cases hv
     | some u=>rw [hq] at hv;exact WL some hv
    rw [h2]
   simp only [Region.wanted,hg,hy];cases q'<;>cases want<;>rfl
  ·rename_i hl;cases h;have hv:a.tmps.getD d undef=undef:=H.val d _ hl
   have hy:yielded ops.toArray a.tmps k=none:=by
    unfold yielded;have h1:ops.toArray[k]?=some ok:=by simpa using hk
    rw [h1];simp only [AI,hd];rw [Array.getD_eq_getD_getElem?] at hv
    cases hq:a.tmps[d]? with
    | none=>rfl
    | some u=>rw [hq] at hv;obtain rfl:u=undef:=hv;rfl
   simp only [Region.wanted,hg,hy];cases want<;>rfl
  ·cases h
theorem Sb.out (ht:TabW w) (H:RO b G O σ (λj=>a.tmps.getD j undef) w) (hG:∀ k,b<=k->G k) (hb:b<=w.heap.size) (h:Sb σ op z):Out b G O σ w a ⟨some i,op,ty,p,af,g⟩ z:=by
 cases h with
 | sv h hC=>exact UO H hG hb h hC
 | pick ho hc hx=>
  rename_i c x y q r;subst ho;have h1:=CP H c;have h2:=CP H (if q then x else y);rw [hc] at h1;rw [hx] at h2;have e1:a.eval c=.bool q:=h1.2;have e2:a.eval (if q then x else y)=.bool r:=h2.2;refine .val (v:=.bool r) ?_ rfl rfl
  cases q<;>simp_all [execOp,go_sem]
 | call ho ha hc h1 hcl=>
  subst ho;exact Qp H hG hb ht ha hc h1 hcl
end
section
variable {a:Act} {nt:Nat} {w w0:World} {b:Nat} {G:Nat->Prop} {σ τ:St}
theorem RS.ext (R:RS b G w0 nt σ a w) (h:∀ i x,look τ i=some x->look σ i=some x/\∀ m,x.dep i=some m->look τ m=look σ m):RS b G w0 nt τ a w:=by
 obtain ⟨O,H⟩:=R.ro;exact ⟨⟨O,H.inj,H.old,λi x hx=>JZ (λ_ _ _=>rfl) (λ_ _ h=>h) (λm hm=>⟨(h i x hx).2 m hm,rfl,rfl,λ_ _=>rfl⟩) (H.val i x (h i x hx).1)⟩,R.size,R.defers,R.below,R.base⟩
end
section
variable {a:Act} {nt k:Nat} {w w0:World} {b:Nat} {G:Nat->Prop} {σ:St}
theorem RS.frz (R:RS b G w0 nt σ a w) (hG:∀ k,b<=k->G k) (k:Nat):RS b G w0 nt (frz k σ) a w:=by
 unfold Go.Proofs.YtlgojeodceiglaaGreatDoor.PFnExactExecute.frz;split
 ·rename_i t xs hl;obtain ⟨O,H⟩:=R.ro;obtain ⟨h1,h2⟩:=H.val k _ hl
  obtain ⟨k1,k2,k3⟩:=EX (K:=λm=>Nat.beq m k) (tm:=λj=>a.tmps.getD j undef) (tm':=λj=>a.tmps.getD j undef) (v:=a.tmps.getD k undef) (d:=k) (Nat.beq_refl k) (λj=>by
   by_cases hj:j=k
   ·rw [if_pos hj,hj]
   ·rw [if_neg hj])
  refine ⟨⟨_,H.swap (z:=.v (.f t xs)) (blk:=none) (v:=a.tmps.getD k undef) (Killed.one k) (Nat.beq_refl k) (Wn _) (λ_ _ _=>rfl) (λO' o1 o2=>?_) (λk hk=>by cases hk) (λk hk=>by cases hk) k1 k2 k3⟩,R.size,R.defers,R.below,R.base⟩;refine Kd.V_mono (e:=t.e) (base:=b) (Kd.N_V h1) λm hm=>?_;rcases hm with hm | hm
  ·refine (o2 m ⟨hG m (Kd.N_base h1 m (h2.trans hm)),λj e=>?_⟩).resolve_left (λe=>by cases e);unfold takeO at e
   cases hj:Nat.beq j k with
   | true=>simp only [hj,cond_true] at e;cases e
   | false=>
    simp only [hj,cond_false] at e;exact C7.1 hj (H.inj j k m e hm)
  ·exact (o2 m (Fu hm)).resolve_left (λe=>by cases e)
 ·exact R
end

end
section
structure HG (b:Nat) (G:Nat->Prop) (w0:World):Prop where
 g:∀ k,b<=k->G k
 t:∀ w,Below b w0 w->TabW w
def RunL (nt:Nat) (ops:List Oper):List Oper->St->St->Prop
 | [],σ,σ'=>σ=σ'
 | o::l,σ,σ'=>∃ σ1,Stp nt ops o σ σ1/\RunL nt ops l σ1 σ'
section
variable {a:Act} {d nt:Nat} {w w' w0:World} {z:AV} {b:Nat} {G:Nat->Prop} {O:Nat->Option Nat} {σ σ1 σ':St} {v:Value} {o:Oper} {KK:Act->World->Prop} {Q:Exit->Act->World->Prop} {ops:List Oper}
theorem Stp.ok (h:Stp nt ops o σ σ') (R:RS b G w0 nt σ a w) (hG:HG b G w0) (hK:∀ a' w',RS b G w0 nt σ' a' w'->KK a' w') :
  if Region.wanted o (yielded ops.toArray a.tmps)=true then Oper.wp Tryz.prog o a w KK Q else KK (a.put o.dst undef) w:=by
 induction h with
 | fz k _ ih=>exact ih (R.frz hG.g k) hK
 | sb hg hd h hf hn=>
  obtain ⟨O,H⟩:=R.ro;rw [if_pos (OB H hg)];rename_i d z;obtain ⟨dst,op,type,pos,after,guard⟩:=o;obtain rfl:dst=some d:=hd
  exact R.stable hG.g rfl (λO H=>h.out (hG.t _ R.below) H hG.g R.base) hf hn hK
 | off hg hd hf hn=>
  obtain ⟨O,H⟩:=R.ro;rename_i d;rw [if_neg (by rw [OB H hg];exact Bool.false_ne_true),hd];refine hK _ _ ⟨H.put (v:=undef) hG.g R.base (WG _ _) (z:=.v .vd) rfl hf λi=>KD (by rw [R.size];exact hn),?_,R.defers,R.below,R.base⟩;show (a.tmps.setIfInBounds d undef).size=nt
  rw [Array.size_setIfInBounds];exact R.size
 | fi hg hd ho ht hl hy=>
  obtain ⟨O,H⟩:=R.ro;rename_i σ i q r y t;rw [if_pos (OB H hg)];obtain ⟨dst,op,type,pos,after,guard⟩:=o;obtain rfl:dst=none:=hd;obtain rfl:op=.store t (.tmp i) y:=ho;subst ht;have hx:rs σ (.tmp i)=.z i q:=by simp only [rs,hl,rsV]
  refine R.fill hG.g hx hy λa' w' R'=>hK a' w' (R'.ext λj x hj=>?_)
  have hlk:∀ m,(m=i\/∃ x,look σ m=some x/\∀ n,x.dep m=some n->n≠i)->look ((i,AV.v (.h (.r q r)))::kill i σ) m=look ((i,AV.v (.h (.r q r)))::σ) m:=λm hm=>by
   rw [Bm,Bm];split
   ·rfl
   ·rename_i hmi;obtain ⟨x,h1,h2⟩:=hm.resolve_left (λe=>hmi e.symm);rw [h1]
    have hh:hit i m x=false:=by
     have h0:Nat.beq m i=false:=C7.2 (λe=>hmi e.symm)
     cases x with
     | a n=>simp only [hit,Bool.or_eq_false_iff];exact ⟨h0,C7.2 (h2 n rfl)⟩
     | w n _ _=>simp only [hit,Bool.or_eq_false_iff];exact ⟨h0,C7.2 (h2 n rfl)⟩
     | q n _=>simp only [hit,Bool.or_eq_false_iff];exact ⟨h0,C7.2 (h2 n rfl)⟩
     | _=>exact h0
    exact EW h1 hh
  have hdep:∀ m x,look σ m=some x->m≠i->∀ n,x.dep m=some n->n≠i:=λm x h1 hmi n hn e=>by
   rcases H.dep h1 hn with e2 | ⟨τ,xs,h3⟩
   ·exact hmi (e2.symm.trans e)
   ·rw [e,hl] at h3;cases h3
  rw [Bm] at hj;by_cases hji:i=j
  ·rw [if_pos hji] at hj;subst hji;cases hj;exact ⟨by rw [Bm,if_pos rfl],λm hm=>by cases hm⟩
  ·rw [if_neg hji] at hj;have hd2:=hdep j x hj (Ne.symm hji);refine ⟨by rw [hlk j (.inr ⟨x,hj,hd2⟩),Bm,if_neg hji];exact hj,λm hm=>?_⟩;rcases H.dep hj hm with rfl | ⟨τ,xs,h3⟩
   ·exact (hlk m (.inr ⟨x,hj,hd2⟩)).symm
   ·exact (hlk m (.inr ⟨_,h3,hdep m _ h3 (hd2 m hm)⟩)).symm
 | cs hg hn h hC=>
  obtain ⟨O,H⟩:=R.ro;rw [if_pos (OB H hg)];exact Ud (op:=o.op) R hG.g h hC hn hK
theorem RunL.ok (hG:HG b G w0):∀ {l:List Oper} {σ:St} {a:Act} {w:World},RunL nt ops l σ σ'->RS b G w0 nt σ a w->(∀ a' w',RS b G w0 nt σ' a' w'->Q .normal a' w')->wpList Tryz.prog ops.toArray Q l a w
 | [],_,_,_,h,R,hQ=>by cases h;exact hQ _ _ R
 | o::l,σ,a,w,⟨σ1,h1,h2⟩,R,hQ=>wpList_step λK hK=>h1.ok R hG λa' w' R'=>hK _ _ (h2.ok hG R' hQ)
end
def subS:St->St->Prop
 | [],_=>True
 | (i,x)::τ,σ=>look σ i=some x/\subS τ σ
def Hi (τ:St) (j:Nat):Bool:=match look τ j with
 | some (.v (.o _ _))=>true
 | _=>false
def Sr (τ:St):AV->Bool
 | .a j=>Hi τ j
 | .w j _ _=>Hi τ j
 | .q j _=>Hi τ j
 | _=>true
def Fj (τ:St):Bool:=τ.all λe=>Sr τ e.2
theorem Hm {σ:St}:∀ {τ:St},subS τ σ->∀ {i x},look τ i=some x->look σ i=some x
 | [],_,_,_,h=>by cases h
 | (j,y)::τ,h,i,x,hl=>by
  rw [Bm] at hl;split at hl
  ·rename_i hj;subst hj;cases hl;exact h.1
  ·exact Hm h.2 hl
theorem IB {i:Nat} {x:AV}:∀ {τ:St},look τ i=some x->(i,x)∈τ
 | [],h=>by cases h
 | (j,y)::τ,hl=>by
  rw [Bm] at hl;split at hl
  ·rename_i hj;subst hj;cases hl;exact TO
  ·exact S2 _ (IB hl)
def RgOk (nt:Nat) (ops:List Oper) (dr:Bool) (σ σ':St):Prop:=∀ (b:Nat) (G:Nat->Prop) (w0:World) (Q:Exit->Act->World->Prop) (id:Nat) (a:Act) (w:World),HG b G w0->RS b G w0 nt σ a w->(∀ a' w',RS b G w0 nt σ' a' w'->Q .normal a' w')->(Code.region id ops.toArray dr).wp Tryz.prog Q a w
def thenS (next:St->Prop) (Q:Exit->St->Prop):Exit->St->Prop
 | .normal,σ=>next σ
 | e,σ=>Q e σ
def FQ (id:Nat) (Q:Exit->St->Prop):Exit->St->Prop
 | .exit k,σ=>bif Nat.beq k id then Q .normal σ else Q (.exit k) σ
 | e,σ=>Q e σ
def awp (nt:Nat):Code->(Exit->St->Prop)->St->Prop
 | .skip,Q,σ=>Q .normal σ
 | .region _ ops dr,Q,σ=>∃ σ',RgOk nt ops.toList dr σ σ'/\Q .normal σ'
 | .seq x y,Q,σ=>awp nt x (thenS (awp nt y Q) Q) σ
 | .cond c x y,Q,σ=>∃ q,rs σ c=.v (.b q)/\if q then awp nt x Q σ else awp nt y Q σ
 | .block id c,Q,σ=>awp nt c (FQ id Q) σ
 | .loop c,Q,σ=>∃ (I:Nat->St->Prop) (n:Nat) (τ:St),I n τ/\(subS τ σ/\Fj τ=true)/\∀ n τ,I n τ->awp nt c (thenS (λσ'=>∃ m τ',m<n/\I m τ'/\subS τ' σ'/\Fj τ'=true) Q) τ
 | .exit id,Q,σ=>Q (.exit id) σ
 | .ret,Q,σ=>Q .ret σ
 | _,_,_=>False
section
variable {a:Act} {d nt:Nat} {w w' w0:World} {z:AV} {b:Nat} {G:Nat->Prop} {O:Nat->Option Nat} {σ σ1 σ' τ:St} {v:Value} {o:Oper} {KK:Act->World->Prop} {ops:List Oper}
theorem N1 {j:Nat} (h:Hi τ j=true):∃ y,look τ j=some y:=by
 unfold Hi at h;split at h
 ·rename_i hl;exact ⟨_,hl⟩
 ·cases h
theorem RS.sub (R:RS b G w0 nt σ a w) (h:subS τ σ) (hc:Fj τ=true):RS b G w0 nt τ a w:=by
 refine R.ext λi x hx=>⟨Hm h hx,λm hm=>?_⟩
 have hcl:=List.all_eq_true.1 hc (i,x) (IB hx)
 have go:∀ {j},Hi τ j=true->look τ j=look σ j:=λhj=>by
  obtain ⟨y,hy⟩:=N1 hj;rw [hy,Hm h hy]
 have self:m=i->look τ m=look σ m:=λe=>by rw [e,hx,Hm h hx]
 cases x with
 | v x=>cases x<;>cases hm;exact self rfl
 | a j=>cases hm;exact go hcl
 | w j t xs=>cases hm;exact go hcl
 | q j n=>cases hm;exact go hcl
 | p x=>cases hm
 | t xs=>
  simp only [AV.dep] at hm;split at hm
  ·exact self (AS hm).symm
  ·cases hm
 | z q=>cases hm;exact self rfl
theorem RunL.rg (h:RunL nt ops ops σ σ'):RgOk nt ops false σ σ':=λb G w0 Q id a w hG R hQ=>by
 refine wp_region_list ?_;have:=RunL.ok (Q:=Q) hG h R hQ;simpa using this
def lift (b:Nat) (G:Nat->Prop) (w0:World) (nt:Nat) (Q:Exit->St->Prop):Exit->Act->World->Prop
 | .panic _,_,_=>False
 | .outgrown,_,_=>False
 | e,a,w=>∃ σ,Q e σ/\RS b G w0 nt σ a w
theorem Ql (hG:HG b G w0):∀ (c:Code) {Q:Exit->St->Prop} {QQ:Exit->Act->World->Prop} {σ:St} {a:Act} {w:World},awp nt c Q σ->RS b G w0 nt σ a w->(∀ e a w,lift b G w0 nt Q e a w->QQ e a w)->c.wp Tryz.prog QQ a w:=by
 intro c
 induction c with
 | skip=>exact λh R hQ=>wp_skip (hQ _ _ _ ⟨_,h,R⟩)
 | ret=>exact λh R hQ=>wp_ret (hQ _ _ _ ⟨_,h,R⟩)
 | exit id=>exact λh R hQ=>wp_exit (hQ _ _ _ ⟨_,h,R⟩)
 | region id ops dr=>
  intro Q QQ σ a w h R hQ;obtain ⟨σ',h1,h2⟩:=h;have:=h1 b G w0 QQ id a w hG R λa' w' R'=>hQ _ _ _ ⟨_,h2,R'⟩
  simpa using this
 | seq x y hx hy=>
  intro Q QQ σ a w h R hQ;refine wp_seq (hx h R λe a w hl=>?_)
  cases e with
  | normal=>
   obtain ⟨σ',h1,R'⟩:=hl
   exact hy h1 R' hQ
  | panic _=>exact hl.elim
  | outgrown=>exact hl.elim
  | _=>exact hQ _ _ _ hl
 | cond c x y hx hy=>
  intro Q QQ σ a w h R hQ;obtain ⟨q,h1,h2⟩:=h;obtain ⟨O,H⟩:=R.ro;have hr:=CP H c;rw [h1] at hr;refine wp_cond (t:=q) hr.2 ?_
  cases q with
  | true=>exact hx h2 R hQ
  | false=>exact hy h2 R hQ
 | block id c hc=>
  intro Q QQ σ a w h R hQ;refine wp_block (hc h R λe a w hl=>?_)
  cases e with
  | exit k=>
   obtain ⟨σ',h1,R'⟩:=hl;have h1:(bif Nat.beq k id then Q .normal σ' else Q (.exit k) σ'):=h1;show (if k=id then QQ .normal a w else QQ (.exit k) a w);by_cases hk:k=id
   ·subst hk;rw [Nat.beq_refl] at h1;rw [if_pos rfl];exact hQ _ _ _ ⟨_,h1,R'⟩
   ·rw [C7.2 hk] at h1;rw [if_neg hk]
    exact hQ _ _ _ ⟨_,h1,R'⟩
  | panic _=>exact hl.elim
  | outgrown=>exact hl.elim
  | _=>exact hQ _ _ _ hl
 | loop c hc=>
  intro Q QQ σ a w h R hQ;obtain ⟨I,n,τ,h1,⟨h2,h2c⟩,h3⟩:=h;refine wp_loop_ghost (λn a w=>∃ τ,I n τ/\RS b G w0 nt τ a w) n ⟨τ,h1,R.sub h2 h2c⟩ λn a w ⟨τ,hI,R⟩=>?_;refine hc (h3 n τ hI) R λe a w hl=>?_
  cases e with
  | normal=>
   obtain ⟨σ',⟨m,τ',k1,k2,k3,k4⟩,R'⟩:=hl
   exact ⟨m,k1,τ',k2,R'.sub k3 k4⟩
  | panic _=>exact hl.elim
  | outgrown=>exact hl.elim
  | _=>exact hQ _ _ _ hl
 | _=>exact λh=>h.elim
end

end
section
def parS:Nat->List BV->St
 | _,[]=>[]
 | i,x::l=>(i,.v x)::parS (i+1) l
def FC (σ:St) (t:Nat):BV->Prop
 | .f τ xs=>lsOf (rs σ (.tmp t))=some ⟨τ,xs⟩
 | .o τ xs=>∃ j,rs σ (.tmp t)=.A j τ xs
 | x=>rs σ (.tmp t)=.v x
def retL (σ:St):List ResultVar->List BV->Prop
 | [.tmp t],[x]=>FC σ t x
 | [.tmp t,.tmp u],[x,y]=>FC σ t x/\FC σ u y
 | [.cell t ty,.tmp u],[x,y]=>(∃ q s,x=.h (.k q s)/\ty=q.e/\rs σ (.tmp t)=.v (.h (.r q s)))/\FC σ u y
 | [.tmp t,.tmp u,.tmp v],[x,y,z]=>FC σ t x/\FC σ u y/\FC σ v z
 | [.tmp t,.tmp u,.tmp v,.tmp s],[x,y,z,q]=>FC σ t x/\FC σ u y/\FC σ v z/\FC σ s q
 | _,_=>False
def retQ (rv:List ResultVar) (res:List BV):Exit->St->Prop
 | .normal,σ=>retL σ rv res
 | .ret,σ=>retL σ rv res
 | _,_=>False
section
variable {a:Act} {d nt:Nat} {w w' w0:World} {z:AV} {b:Nat} {G:Nat->Prop} {O:Nat->Option Nat} {σ σ1 σ' τ:St} {v:Value} {o:Oper} {KK:Act->World->Prop} {ops:List Oper} {fn:Func}
theorem Ki {x:AV} {k:Nat}:∀ {l:List BV} {i:Nat},look (parS i l) k=some x->∃ y,x=.v y/\i<=k/\l[k-i]?=some y
 | [],_,h=>by cases h
 | y::l,i,h=>by
  unfold parS at h;rw [Bm] at h;split at h
  ·rename_i hi;subst hi;cases h;exact ⟨y,rfl,Wn _,by simp⟩
  ·rename_i hi;obtain ⟨y',h1,h2,h3⟩:=Ki h;refine ⟨y',h1,by omega,?_⟩;rw [show k-i=(k-(i+1))+1 by omega];simpa using h3
theorem Et {ok:Nat->Prop} (R:RS w.heap.size (λk=>ok k\/w.heap.size<=k) w nt σ a w') {t:Nat} {x:BV} (h:FC σ t x):crv ok w.heap.size w' x (a.tmps.getD t undef):=by
 obtain ⟨O,H⟩:=R.ro;have hr:=CP H (.tmp t);have hfr:∀ k,fr (λk=>ok k\/w.heap.size<=k) O k->ok k\/w.heap.size<=k:=λk h=>h.1
 cases x with
 | f τ xs=>
  have h:lsOf (rs σ (.tmp t))=some ⟨τ,xs⟩:=h
  cases hx:rs σ (.tmp t) with
  | v y=>
   rw [hx] at h hr
   cases y with
   | f t' ys=>cases h;exact Kd.V_mono (e:=τ.e) (base:=0) hr.2 hfr
   | _=>cases h
  | A j t' ys=>
   rw [hx] at h hr;cases h
   exact Kd.V_mono (e:=τ.e) (base:=0) (Kd.N_V hr.2.1) λk hk=>hk.elim (λh=>.inr (Kd.N_base hr.2.1 k (hr.2.2.trans h))) (hfr k)
  | W j t' ys=>
   obtain ⟨τ2,zs,hw⟩:=UD H hx;have hn:=H.val j _ hw;rw [hx] at h hr;cases h
   exact Kd.V_mono (e:=τ.e) (base:=0) hr λk hk=>hk.elim (λh=>.inr (Kd.N_base hn.1 k (hn.2.trans h))) (hfr k)
  | _=>rw [hx] at h;cases h
 | o τ xs=>
  obtain ⟨j,hx⟩:=h;rw [hx] at hr
  exact Kd.N_mono hr.2.1 λk hk=>hk.elim (λh=>.inr (Kd.N_base hr.2.1 k (hr.2.2.trans h))) (hfr k)
 | h x=>
  have h:rs σ (.tmp t)=.v (.h x):=h;rw [h] at hr
  exact FV.mono hr.2 hfr
 | u=>trivial
 | vd=>have h:rs σ (.tmp t)=.v .vd:=h;rw [h] at hr;exact hr.2
 | i n=>have h:rs σ (.tmp t)=.v (.i n):=h;rw [h] at hr;exact hr.2
 | b n=>have h:rs σ (.tmp t)=.v (.b n):=h;rw [h] at hr;exact hr.2
 | y n=>have h:rs σ (.tmp t)=.v (.y n):=h;rw [h] at hr;exact hr.2
 | s n=>have h:rs σ (.tmp t)=.v (.s n):=h;rw [h] at hr;exact hr.2
theorem L7 {ok:Nat->Prop} (R:RS w.heap.size (λk=>ok k\/w.heap.size<=k) w nt σ a w') {res:List BV} (h:retL σ fn.results.toList res):∃ v,(results fn a.tmps).run Tryz.prog w'=.ok v w'/\crvs ok w.heap.size w' res v:=by
 have hrl:fn.results=fn.results.toList.toArray:=by simp
 unfold retL at h;split at h
 ·rename_i t x hl;rw [hl] at hrl;exact ⟨_,by simp [results,hrl],Et R h⟩
 ·rename_i t u x y hl;rw [hl] at hrl;refine ⟨.tuple #[a.tmps.getD t undef,a.tmps.getD u undef],by simp [results,hrl],_,rfl,rfl,λk q hq=>?_⟩;rcases k with _ | _ | k
  ·cases hq;exact ⟨_,rfl,Et R h.1⟩
  ·cases hq;exact ⟨_,rfl,Et R h.2⟩
  ·simp at hq
 ·rename_i t ty u x y hl;rw [hl] at hrl;obtain ⟨⟨q,s,rfl,rfl,h1⟩,h2⟩:=h;obtain ⟨O,H⟩:=R.ro;have hr:=CP H (.tmp t);rw [h1] at hr;obtain ⟨ad,A,c,e1,e2,e3,e4,e5,e6⟩:=hr.2;have e1:a.tmps.getD t undef=.pointer (some ad):=e1;refine ⟨.tuple #[.agg #[.int .u8 (q.f0 s),.slice A (q.f1 s).length c],a.tmps.getD u undef],?_,_,rfl,rfl,λk y' hq=>?_⟩
  ·have e1':=e1;rw [Array.getD_eq_getD_getElem?] at e1';cases q<;>simp [results,hrl,go_sem,e1',e3,e4,Tq.e]
  rcases k with _ | _ | k
  ·cases hq;exact ⟨_,rfl,A,c,rfl,e5,Kd.F_mono e6 λk hk=>hk.1⟩
  ·cases hq;exact ⟨_,rfl,Et R h2⟩
  ·simp at hq
 ·rename_i t u v x y z hl;rw [hl] at hrl;refine ⟨.tuple #[a.tmps.getD t undef,a.tmps.getD u undef,a.tmps.getD v undef],by simp [results,hrl],_,rfl,rfl,λk q hq=>?_⟩;rcases k with _ | _ | _ | k
  ·cases hq;exact ⟨_,rfl,Et R h.1⟩
  ·cases hq;exact ⟨_,rfl,Et R h.2.1⟩
  ·cases hq;exact ⟨_,rfl,Et R h.2.2⟩
  ·simp at hq
 ·rename_i t u v s x y z q' hl;rw [hl] at hrl;refine ⟨.tuple #[a.tmps.getD t undef,a.tmps.getD u undef,a.tmps.getD v undef,a.tmps.getD s undef],by simp [results,hrl],_,rfl,rfl,λk q hq=>?_⟩;rcases k with _ | _ | _ | _ | k
  ·cases hq;exact ⟨_,rfl,Et R h.1⟩
  ·cases hq;exact ⟨_,rfl,Et R h.2.1⟩
  ·cases hq;exact ⟨_,rfl,Et R h.2.2.1⟩
  ·cases hq;exact ⟨_,rfl,Et R h.2.2.2⟩
  ·simp at hq
 ·exact h.elim
theorem Wa {f:Nat} {c:Code} {l:List Int} {ins:List BV} {res:List BV} (hf:Tryz.prog.funcs[f]?=some fn) (hb:fn.body=some c) (hname:(fn.name== "runtime.NumGoroutine")=false) (hn':Nat.ble (ins.length+1) fn.ntmps=true)
  (h:awp fn.ntmps c (retQ fn.results.toList res) ((0,.p (.f .i l))::parS 1 ins)) (vs:List Value) (w:World) (g:Nat) (A:Option Addr) (cp:Nat) (ht:TabW w) (hg:w.cell? ⟨g,0,none⟩=some (.slice A l.length cp)) (hc:Kd.C (Kd.int .i64) w A l.length l) (hcap:l.length<=cp)
  (hs:vs.length=ins.length) (ha:∀ (k:Nat) (x:BV) (u:Value),ins[k]?=some x->vs[k]?=some u->∃ t,x=.s t/\u=.string t) :
  Calls Tryz.prog f (Value.pointer (some ⟨g,0,none⟩)::vs).toArray w λe w'=>Below w.heap.size w w'/\∃ v,e=.returned v/\crvs (λ_=>True) w.heap.size w' res v:=by
 have hn:=Nat.le_of_ble_eq_true hn'
 have hG:HG w.heap.size (λk=>True\/w.heap.size<=k) w:=⟨λk h=>.inr h,λw' hb=>ht.below hb⟩
 have R:RS w.heap.size (λk=>True\/w.heap.size<=k) w fn.ntmps ((0,.p (.f .i l))::parS 1 ins) { tmps:=(Value.pointer (some ⟨g,0,none⟩)::vs).toArray++Array.replicate (fn.ntmps-(Value.pointer (some ⟨g,0,none⟩)::vs).toArray.size) undef,defers:=[] } w:=by
  refine ⟨⟨λ_=>none,⟨λi j k h=>(by cases h),λi k h=>(by cases h),λi x hx=>?_⟩⟩,(by simp;omega),rfl,WG _ _,Wn _⟩;rw [Bm] at hx;split at hx
  ·rename_i hi;subst hi;cases hx;refine ⟨rfl,⟨g,0,none⟩,_,(by rw [Array.getD_eq_getD_getElem?,Array.getElem?_append_left (by simp)];rfl),hg,⟨.inl trivial,λj e=>(by cases e)⟩,A,cp,rfl,hcap,Kd.F_mono (Kd.C_F (Kd.heap_int _) hc) λk hk=>⟨.inl trivial,λj e=>(by cases e)⟩⟩
  ·obtain ⟨y,rfl,h1,hy⟩:=Ki hx;have hlt:i-1<vs.length:=by rw [hs];exact (List.getElem?_eq_some_iff.1 hy).1
   obtain ⟨t,rfl,hu⟩:=ha (i-1) y vs[i-1] hy (WH hlt);show _=_;rw [Array.getD_eq_getD_getElem?,Array.getElem?_append_left (by simp;omega)]
   obtain ⟨i',rfl⟩:∃ i',i=i'+1:=⟨i-1,by omega⟩
   simp only [List.getElem?_toArray,List.getElem?_cons_succ];simp only [Nat.add_sub_cancel] at hu hlt;rw [WH hlt,hu];rfl
 refine calls_of_wp hf hb (Ql hG c h R λe a w' hl=>?_)
 cases e with
 | normal=>
  obtain ⟨σ',h1,R'⟩:=hl;obtain ⟨v,k1,k2⟩:=L7 (ok:=λ_=>True) R' h1
  exact ⟨R'.defers,v,k1,R'.below,v,rfl,k2⟩
 | ret=>
  obtain ⟨σ',h1,R'⟩:=hl;obtain ⟨v,k1,k2⟩:=L7 (ok:=λ_=>True) R' h1
  exact ⟨R'.defers,v,k1,R'.below,v,rfl,k2⟩
 | panic _=>exact hl.elim
 | outgrown=>exact hl.elim
 | _=>obtain ⟨σ',h1,R'⟩:=hl;exact h1.elim
theorem Vn {f:Nat} {c:Code} {ins res:List BV} (hf:Tryz.prog.funcs[f]?=some fn) (hb:fn.body=some c) (hname:(fn.name== "runtime.NumGoroutine")=false) (hn':Nat.ble ins.length fn.ntmps=true) (ho:ins.all (λx=>!x.own)=true)
  (h:awp fn.ntmps c (retQ fn.results.toList res) (parS 0 ins)):Ct f ins res:=by
 have hn:=Nat.le_of_ble_eq_true hn';refine ⟨⟨fn,hf,hname,by rw [hb];rfl⟩,λvs w ok ht hs ha=>?_⟩
 have hG:HG w.heap.size (λk=>ok k\/w.heap.size<=k) w:=⟨λk h=>.inr h,λw' hb=>ht.below hb⟩
 have R:RS w.heap.size (λk=>ok k\/w.heap.size<=k) w fn.ntmps (parS 0 ins) { tmps:=vs++Array.replicate (fn.ntmps-vs.size) undef,defers:=[] } w:=by
  refine ⟨⟨λ_=>none,⟨λi j k h=>(by cases h),λi k h=>(by cases h),λi x hx=>?_⟩⟩,(by simp;omega),rfl,WG _ _,Wn _⟩;obtain ⟨y,rfl,_,hy⟩:=Ki hx;rw [Nat.sub_zero] at hy;have hlt:i<vs.size:=by rw [hs];exact (List.getElem?_eq_some_iff.1 hy).1
  have hv:=ha i y vs[i] hy (Array.getElem?_eq_getElem hlt)
  have he:(vs++Array.replicate (fn.ntmps-vs.size) undef).getD i undef=vs[i]:=by
   rw [Array.getD_eq_getD_getElem?,Array.getElem?_append_left hlt,Array.getElem?_eq_getElem hlt];rfl
  have hown:=List.all_eq_true.1 ho y (List.mem_of_getElem? hy);show avr _ _ _ _ _ _ _ _ ((vs++Array.replicate (fn.ntmps-vs.size) undef).getD i undef);rw [he]
  cases y with
  | f t xs=>exact Kd.V_mono (e:=t.e) (base:=0) hv λk hk=>⟨.inl hk,λj e=>(by cases e)⟩
  | o t xs=>cases hown
  | h x=>exact FV.mono hv λk hk=>⟨.inl hk,λj e=>(by cases e)⟩
  | _=>exact hv
 refine calls_of_wp hf hb (Ql hG c h R λe a w' hl=>?_)
 cases e with
 | normal=>
  obtain ⟨σ',h1,R'⟩:=hl;obtain ⟨v,k1,k2⟩:=L7 R' h1
  exact ⟨R'.defers,v,k1,R'.below,v,rfl,k2⟩
 | ret=>
  obtain ⟨σ',h1,R'⟩:=hl;obtain ⟨v,k1,k2⟩:=L7 R' h1
  exact ⟨R'.defers,v,k1,R'.below,v,rfl,k2⟩
 | panic _=>exact hl.elim
 | outgrown=>exact hl.elim
 | _=>obtain ⟨σ',h1,R'⟩:=hl;exact h1.elim
end

end
section
def zOk (ds:List Nat):AV->Bool
 | .a j=>!ds.contains j
 | .w j _ _=>!ds.contains j
 | .q j _=>!ds.contains j
 | _=>true
def mkB (T:List (List Nat×List Nat)):List Nat:=T.foldl (λB r=>B++[upM B B.length r.1]) []
def oD (o:Oper):Option Nat:=match o.dst with
 | some d=>some d
 | none=>match o.op with
  | .store _ (.tmp i) _=>some i
  | _=>none
def opT (ops:List Oper) (o:Oper):List Nat:=(opnds o.op).filterMap (λx=>match x with | .tmp t=>some t | _=>none)++(match o.guard with
 | some (k,_)=>match ops[k]? with
  | some o'=>o'.dst.toList
  | none=>[]
 | none=>[])
def wrO (o:Oper):List Nat:=(oD o).toList++(match o.op with
 | .call { callee:=.builtin .append,args,.. }=>(match args.toList with
  | [.tmp s,_]=>[s]
  | _=>[])
 | .call { callee:=.value (.func _),args,.. }=>(match args.toList with
  | [.tmp s]=>[s]
  | _=>[])
 | _=>[])
def meet (a b:List Nat):Bool:=a.any λt=>b.contains t
def clash (ops:List Oper) (i k:Oper):Bool:=meet (wrO k) (opT ops i)||meet (wrO k) (wrO i)||meet (opT ops k) (wrO i)
def dOk (ops:List Oper) (m:Nat) (ds:List Nat) (T:List (List Nat×List Nat)) (B:List Nat):Bool:=
 F3 T B&&FO T (List.range ops.length)&&((List.range m).all λk=>match ops[k]? with
  | some o=>(wrO o).all ds.contains&&(List.range k).all λi=>match ops[i]? with
   | some p=>!clash ops p o||(B.getD k 0).testBit i
   | none=>false
  | none=>false)&&((List.range ops.length).all λd=>Nat.blt d m||(List.range d).all λj=>(B.getD d 0).testBit j)&&Nat.ble m ops.length
inductive PStp (nt:Nat) (ops:List Oper) (o:Oper) (σ:St):St->Prop
 | pu {d z} (hd:o.dst=some d) (run:(gd σ ops o.guard=some true/\Sb σ o.op z)\/(gd σ ops o.guard=some false/\z=.v .vd)) (hf:free σ d=true) (hn:d<nt):PStp nt ops o σ [(d,z)]
 | fi {d q r y t} (hg:gd σ ops o.guard=some true) (hd:o.dst=none) (ho:o.op=.store t (.tmp d) y) (ht:t=q.e) (hl:look σ d=some (.z q)) (hy:rs σ y=.v (.h (.k q r))):PStp nt ops o σ [(d,.v (.h (.r q r)))]
 | ap {d s y t τ xs l C ys} (hg:gd σ ops o.guard=some true) (hd:o.dst=some d) (ho:o.op=.call { callee:=.builtin .append,args:=#[.tmp s,y],argTypes:=#[t,t] }) (hn:d<nt) (hf:free σ d=true) (hs:look σ s=some (.v (.o τ xs)))
   (hL:csLL σ d t s τ xs (rs σ y)=none) (hA:(Nat.beq t τ.t&&awayR s (rs σ y))=true) (hl:lsOf (rs σ y)=some l) (hc:catE τ xs l=some (C,ys)) (hC:C):PStp nt ops o σ [(d,.v (.o τ ys)),(s,.v .u)]
 | fc {d s τ xs f res ats} (hg:gd σ ops o.guard=some true) (hd:o.dst=some d) (ho:o.op=.call { callee:=.value (.func f),args:=#[.tmp s],argTypes:=ats }) (hn:d<nt) (hf:free σ d=true) (hs:look σ s=some (.v (.o τ xs))) (hc:Ct f [.f τ xs] res) (h1:tupOk res=true):PStp nt ops o σ [(d,resOf res),(s,.v (.f τ xs))]
def RunP (nt:Nat) (ops:List Oper) (ds:List Nat):List Oper->St->St->Prop
 | [],σ,σ'=>σ=σ'
 | o::l,σ,σ'=>∃ e,PStp nt ops o σ e/\e.all (λe=>zOk ds e.2)=true/\RunP nt ops ds l (e++σ) σ'
def selG (b:Nat->Bool):Nat->List St->St->St
 | _,[],σ=>σ
 | k,e::es,σ=>selG b (k+1) es (bif b k then e++σ else σ)
def seqS:List St->St->St
 | [],σ=>σ
 | e::es,σ=>seqS es (e++σ)
section
variable {a:Act} {d nt m:Nat} {w w' w0:World} {z:AV} {b:Nat} {G:Nat->Prop} {O:Nat->Option Nat} {σ σ1 σ' τ e:St} {v:Value} {o:Oper} {KK:Act->World->Prop} {ops l:List Oper} {ds:List Nat} {t j k i:Nat} {x:AV}
theorem F5 {m n:Nat} (h:Nat.blt m n=true):m<n:=Nat.le_of_ble_eq_true h
theorem EO {m n:Nat} (h:m<n):Nat.blt m n=true:=Nat.ble_eq_true_of_le h
theorem Ed {m n:Nat} (h:n<=m):Nat.blt m n=false:=by
 cases hb:Nat.blt m n with
 | false=>rfl
 | true=>have:=F5 hb;omega
theorem IA:∀ {e:St},look (e++σ) t=(match look e t with | some x=>some x | none=>look σ t)
 | []=>rfl
 | (j,y)::e=>by
  show look ((j,y)::(e++σ)) t=_;rw [Bm,Bm];split
  ·rfl
  ·exact IA
theorem Jc {e:St} (h:look e t=some x):look (e++σ) t=some x:=by rw [IA,h]
theorem Le {e:St} (h:look e t=none):look (e++σ) t=look σ t:=by rw [IA,h]
theorem FX {bb bb':Nat->Bool}:∀ {es:List St} {k:Nat} {σ σ':St},(∀ (j:Nat) (e:St),es[j]?=some e->look e t≠none->bb (k+j)=bb' (k+j))->look σ t=look σ' t->look (selG bb k es σ) t=look (selG bb' k es σ') t
 | [],_,_,_,_,h=>h
 | e::es,k,σ,σ',h,h0=>by
  unfold selG;refine FX (λj e' hj hn=>?_) ?_
  ·have:=h (j+1) e' (by simpa using hj) hn
   rwa [show k+(j+1)=k+1+j by omega] at this
  ·cases hl:look e t with
   | none=>cases bb k<;>cases bb' k<;>simp only [cond_true,cond_false,Le hl,h0]
   | some x=>
    have:=h 0 e rfl (by rw [hl];exact Option.some_ne_none _);rw [Nat.add_zero] at this;rw [this];cases bb' k
    ·exact h0
    ·simp only [cond_true,Jc hl]
theorem M8 {bb:Nat->Bool}:∀ {es:List St} {k i:Nat} {σ:St},es[i]?=some e->bb (k+i)=true->look e t=some x->(∀ (j:Nat) (e':St),es[j]?=some e'->look e' t≠none->i<j->bb (k+j)=false)->look (selG bb k es σ) t=some x
 | [],_,_,_,h,_,_,_=>by simp at h
 | e'::es,k,i,σ,h,hb,hl,hj=>by
  unfold selG;rcases i with _ | i
  ·simp only [List.getElem?_cons_zero,AT] at h;subst h;rw [Nat.add_zero] at hb;rw [hb];show look (selG bb (k+1) es (e'++σ)) t=some x
   rw [FX (bb:=bb) (bb':=λ_=>false) (σ':=e'++σ) (λj e2 h2 h3=>by
    have:=hj (j+1) e2 (by simpa using h2) h3 (by omega)
    rwa [show k+(j+1)=k+1+j by omega] at this) rfl]
   have none':∀ {es:List St} {k:Nat} {σ:St},selG (λ_=>false) k es σ=σ:=by
    intro es
    induction es with
    | nil=>intro k σ;rfl
    | cons e es ih=>intro k σ;unfold selG;exact ih
   rw [none'];exact Jc hl
  ·exact M8 (i:=i) (by simpa using h) (by rwa [show k+1+i=k+(i+1) by omega]) hl λj e2 h2 h3 h4=>by
    have:=hj (j+1) e2 (by simpa using h2) h3 (by omega)
    rwa [show k+(j+1)=k+1+j by omega] at this
theorem Jh:∀ {es:List St} {k:Nat} {σ:St},selG (λ_=>false) k es σ=σ
 | [],_,_=>rfl
 | _::es,k,σ=>by unfold selG;exact Jh
theorem Ia {bb bb':Nat->Bool}:∀ {es:List St} {k:Nat} {σ:St},(∀ j,k<=j->j<k+es.length->bb j=bb' j)->selG bb k es σ=selG bb' k es σ
 | [],_,_,_=>rfl
 | e::es,k,σ,h=>by
  unfold selG;rw [h k (Wn _) (by simp),Ia λj hj hlt=>h j (by omega) (by simp;omega)]
theorem Ji:∀ {es:List St} {k i:Nat} {σ:St},selG (λj=>Nat.blt j (k+i)) k es σ=seqS (es.take i) σ
 | [],_,i,σ=>by simp [selG,seqS]
 | e::es,k,i,σ=>by
  unfold selG;rcases i with _ | i
  ·rw [Ed (Nat.le_of_eq (Nat.add_zero k)),Ia (bb':=λ_=>false) λj hj _=>Ed (by omega),Jh];rfl
  ·rw [EO (show k<k+(i+1) by omega),show k+(i+1)=k+1+i by omega,Ji];rfl
theorem M7 {p:AV->Prop} {bb:Nat->Bool}:∀ {es:List St} {k:Nat} {σ:St},(∀ e∈es,∀ t x,look e t=some x->p x)->(∀ t x,look σ t=some x->p x)->∀ t x,look (selG bb k es σ) t=some x->p x
 | [],_,_,_,h=>h
 | e::es,k,σ,h1,h2=>by
  unfold selG;refine M7 (λe' he=>h1 e' (S2 _ he)) λt x hx=>?_
  cases hb:bb k with
  | false=>rw [hb] at hx;exact h2 t x hx
  | true=>
   rw [hb,cond_true,IA] at hx
   cases hl:look e t with
   | none=>rw [hl] at hx;exact h2 t x hx
   | some y=>rw [hl] at hx;cases hx;exact h1 e TO t _ hl
theorem RunP.es (nt:Nat) (ops:List Oper) (ds:List Nat):∀ {l:List Oper} {σ σ':St},RunP nt ops ds l σ σ'->∃ es:List St,es.length=l.length/\σ'=seqS es σ/\∀ (i:Nat) (o:Oper),l[i]?=some o->∃ e,es[i]?=some e/\PStp nt ops o (seqS (es.take i) σ) e/\e.all (λe=>zOk ds e.2)=true
 | [],σ,σ',h=>⟨[],rfl,h.symm,λi o h=>by simp at h⟩
 | o::l,σ,σ',⟨e,h1,h2,h3⟩=>by
  obtain ⟨es,k1,k2,k3⟩:=RunP.es nt ops ds h3;refine ⟨e::es,by simp [k1],k2,λi o' hi=>?_⟩;rcases i with _ | i
  ·cases hi;exact ⟨e,rfl,h1,h2⟩
  ·obtain ⟨e',e1,e2,e3⟩:=k3 i o' (by simpa using hi);exact ⟨e',by simpa using e1,e2,e3⟩
theorem PStp.wr (h:PStp nt ops o σ e) (ht:look e t≠none):t∈wrO o:=by
 cases h with
 | pu hd _ _ _=>
  rename_i d z;rw [Bm] at ht;split at ht
  ·rename_i e;subst e;unfold wrO oD;rw [hd];simp
  ·exact absurd rfl ht
 | fi _ hd ho _ _ _=>
  rw [Bm] at ht;split at ht
  ·rename_i e;subst e;unfold wrO oD;rw [hd,ho];simp
  ·exact absurd rfl ht
 | ap _ hd ho _ _ _ _ _ _ _ _=>
  rw [Bm,Bm] at ht;unfold wrO oD;rw [hd,ho];split at ht
  ·rename_i e;subst e;simp
  ·split at ht
   ·rename_i e;subst e;simp
   ·exact absurd rfl ht
 | fc _ hd ho _ _ _ _ _=>
  rw [Bm,Bm] at ht;unfold wrO oD;rw [hd,ho];split at ht
  ·rename_i e;subst e;simp
  ·split at ht
   ·rename_i e;subst e;simp
   ·exact absurd rfl ht
theorem Mm (hz:zOk ds x=true) (hk:ds.contains k=true) (hi:i≠k):hit k i x=false:=by
 have h0:Nat.beq i k=false:=C7.2 hi;have h1:∀ j,(!ds.contains j)=true->Nat.beq j k=false:=λj hj=>C7.2 λe=>by rw [e,hk] at hj;cases hj
 cases x with
 | a j=>simp only [hit,Bool.or_eq_false_iff];exact ⟨h0,h1 j hz⟩
 | w j _ _=>simp only [hit,Bool.or_eq_false_iff];exact ⟨h0,h1 j hz⟩
 | q j _=>simp only [hit,Bool.or_eq_false_iff];exact ⟨h0,h1 j hz⟩
 | _=>exact h0
theorem Hd {k:Nat}:∀ {σ:St},look σ t=none->look (kill k σ) t=none
 | [],_=>rfl
 | (j,y)::σ,h=>by
  unfold kill;rw [Bm] at h ⊢;split at h
  ·cases h
  ·rename_i hj;rw [if_neg hj];exact Hd h
theorem OH {k:Nat}:∀ {σ:St},look σ k=some x->look (kill k σ) k=some (.v .u)
 | [],h=>by cases h
 | (j,y)::σ,h=>by
  unfold kill;rw [Bm] at h ⊢;split
  ·rename_i hj;subst hj;have hh:hit j j y=true:=by cases y<;>simp [hit,Nat.beq_refl]
   rw [hh];rfl
  ·rename_i hj;rw [if_neg hj] at h;exact OH h
theorem PStp.stp (h:PStp nt ops o σ e) (hz:∀ t x,look σ t=some x->zOk ds x=true) (hd:(wrO o).all ds.contains=true):∃ σ',Stp nt ops o σ σ'/\∀ t,look σ' t=look (e++σ) t:=by
 cases h with
 | pu hd run hf hn=>
  rcases run with ⟨h1,h2⟩ | ⟨h1,h2⟩
  ·exact ⟨_,.sb h1 hd h2 hf hn,λt=>rfl⟩
  ·subst h2;exact ⟨_,.off h1 hd hf hn,λt=>rfl⟩
 | fi hg hd ho ht hl hy=>exact ⟨_,.fi hg hd ho ht hl hy,λt=>rfl⟩
 | ap hg hdst ho hn hf hs hL hA hl hc hC=>
  rename_i d s y t τ xs l C ys
  have hds:ds.contains d=true/\ds.contains s=true:=by
   unfold wrO oD at hd;rw [hdst,ho] at hd;simpa using hd
  have hsd:s≠d:=Hc hf hs;refine ⟨(d,.v (.o τ ys))::kill d (kill s σ),.cs (C:=C) hg (λd' e=>by rw [hdst] at e;cases e;exact hn) ?_ hC,λm=>?_⟩
  ·have hx:rs σ (.tmp s)=.A s τ xs:=by simp only [rs,hs,rsV]
   rw [hdst,ho];simp only [csOp,Nat.beq_refl,cond_true,Iu,hx,hL,csSc,hA,hl,hc,AI]
  ·show look ((d,_)::kill d (kill s σ)) m=look ((d,_)::(s,.v .u)::σ) m;rw [Bm,Bm,Bm];split
   ·rfl
   ·rename_i hdm;split
    ·rename_i hsm;subst hsm;exact EW (OH hs) (by show Nat.beq s d=false;exact C7.2 hsd)
    ·rename_i hsm
     cases hm:look σ m with
     | none=>exact Hd (Hd hm)
     | some x=>
      have hzx:=hz m x hm
      exact EW (EW hm (Mm hzx hds.2 (Ne.symm hsm))) (Mm hzx hds.1 (Ne.symm hdm))
 | fc hg hdst ho hn hf hs hc h1=>
  rename_i d s τ xs f res ats
  have hds:ds.contains d=true/\ds.contains s=true:=by
   unfold wrO oD at hd;rw [hdst,ho] at hd;simpa using hd
  have hsd:s≠d:=Hc hf hs;have hfr:frz s σ=(s,.v (.f τ xs))::kill s σ:=by unfold frz;rw [hs]
  have hkl:∀ m,s≠m->look (kill s σ) m=look σ m:=λm hsm=>by
   cases hm:look σ m with
   | none=>exact Hd hm
   | some x=>exact EW hm (Mm (hz m x hm) hds.2 (Ne.symm hsm))
  have hlf:∀ m,s≠m->look (frz s σ) m=look σ m:=λm hsm=>by rw [hfr,Bm,if_neg hsm,hkl m hsm]
  have hrs:rs (frz s σ) (.tmp s)=.v (.f τ xs):=by simp only [rs,hfr,Bm,if_true,rsV]
  have hgd:gd (frz s σ) ops o.guard=some true:=by
   rw [<- hg]
   cases hgo:o.guard with
   | none=>rfl
   | some kw=>
    obtain ⟨k,want⟩:=kw;rw [hgo] at hg;unfold gd at hg ⊢;simp only at hg ⊢
    cases hk:ops[k]? with
    | none=>rfl
    | some o'=>
     simp only [hk] at hg ⊢
     cases hd':o'.dst with
     | none=>rfl
     | some t=>
      simp only [hd'] at hg ⊢;by_cases hst:s=t
      ·subst hst;rw [hs] at hg;cases hg
      ·rw [hlf t hst]
  refine ⟨(d,resOf res)::frz s σ,.fz s (.sb hgd hdst (.call (ins:=[.f τ xs]) ho ?_ hc h1 (.inl ?_)) ?_ hn),λm=>?_⟩
  ·simp only [F4,hrs,argOf]
  ·simp [hrs,isA]
  ·show GX (look (frz s σ) d)=true;rw [hlf d hsd];exact hf
  ·show look ((d,_)::frz s σ) m=look ((d,_)::(s,.v (.f τ xs))::σ) m;rw [Bm,Bm,Bm,hfr,Bm];split
   ·rfl
   ·split
    ·rfl
    ·rename_i hsm;exact hkl m hsm
end

end
section
section
variable {a:Act} {d nt m n:Nat} {w w' w0:World} {z:AV} {b:Nat} {G:Nat->Prop} {O:Nat->Option Nat} {σ σ1 σ2 σm σ' τ:St} {v:Value} {o:Oper} {KK:Act->World->Prop} {ops l:List Oper} {ds B:List Nat} {t j k i:Nat} {x:AV} {Q:Exit->Act->World->Prop}
theorem Ip {r r':Operand->RV}:∀ {l:List Operand},(∀ x∈l,r x=r' x)->F4 r l=F4 r' l
 | [],_=>rfl
 | x::l,h=>by
  unfold F4;rw [h x (by simp),Ip λy hy=>h y (by simp [hy])]
theorem Sb.congr {op:Op} (h:Sb σ1 op z) (hr:∀ x∈opnds op,rs σ2 x=rs σ1 x):Sb σ2 op z:=by
 cases h with
 | sv h hC=>exact .sv (by rw [RB hr];exact h) hC
 | pick ho hc hx=>
  rename_i c x y q r;subst ho;refine .pick rfl ((hr c (by simp [opnds])).trans hc) ?_;rw [hr _ (by cases q<;>simp [opnds])]
  exact hx
 | call ho ha hc h1 hcl=>
  subst ho;refine .call rfl ((Ip hr).trans ha) hc h1 (hcl.imp (λh=>?_) id);rw [List.any_eq_false] at h ⊢;intro y hy;rw [hr y hy];exact h y hy
theorem Ro {x:Operand} (ht:∀ t,x=.tmp t->look σ2 t=look σ1 t/\∀ j,(look σ1 t=some (.a j)\/∃ n,look σ1 t=some (.q j n))->look σ2 j=look σ1 j):rs σ2 x=rs σ1 x:=by
 cases x with
 | tmp t=>
  obtain ⟨h1,h2⟩:=ht t rfl;simp only [rs,h1]
  cases hl:look σ1 t with
  | none=>rfl
  | some y=>
   cases y with
   | a j=>simp only [rsV,rsO,h2 j (.inl hl)]
   | q j n=>simp only [rsV,rsO,h2 j (.inr ⟨n,hl⟩)]
   | v y=>cases y<;>rfl
   | _=>rfl
 | _=>rfl
theorem QR {g:Option (Nat×Bool)} (hg:∀ k want o' t,g=some (k,want)->ops[k]?=some o'->o'.dst=some t->look σ2 t=look σ1 t):gd σ2 ops g=gd σ1 ops g:=by
 cases g with
 | none=>rfl
 | some kw=>
  obtain ⟨k,want⟩:=kw;unfold gd;simp only
  cases hk:ops[k]? with
  | none=>rfl
  | some o'=>
   simp only
   cases hd:o'.dst with
   | none=>rfl
   | some t=>
    simp only;rw [hg k want o' t rfl hk hd]
theorem Pb {d t s:Nat} {τ:Ty} {xs:List τ.A} {r:RV} (h:csLL σ1 d t s τ xs r=none):csLL σ2 d t s τ xs r=none:=by
 cases τ with
 | l=>
  cases r with
  | A i τ' ys=>
   cases τ' with
   | l=>
    simp only [csLL] at h ⊢
    cases hb:Nat.beq t 75&&!Nat.beq i s with
    | false=>rfl
    | true=>rw [hb] at h;cases h
   | _=>rfl
  | _=>rfl
 | _=>rfl
theorem PStp.congr {e:St} (h:PStp nt ops o σ1 e) (ht:∀ t∈opT ops o,look σ2 t=look σ1 t/\∀ j,(look σ1 t=some (.a j)\/∃ n,look σ1 t=some (.q j n))->look σ2 j=look σ1 j) (hw:∀ t∈wrO o,look σ2 t=look σ1 t):PStp nt ops o σ2 e:=by
 have hr:∀ x∈opnds o.op,rs σ2 x=rs σ1 x:=λx hx=>Ro λt e=>ht t (by
  subst e
  exact List.mem_append_left _ (List.mem_filterMap.2 ⟨.tmp t,hx,rfl⟩))
 have hg:gd σ2 ops o.guard=gd σ1 ops o.guard:=QR λk want o' t h1 h2 h3=>(ht t (List.mem_append_right _ (by simp [h1,h2,h3]))).1
 cases h with
 | pu hd run hf hn=>
  refine .pu hd ?_ (by show GX (look σ2 _)=true;rw [hw _ (by unfold wrO oD;rw [hd];simp)];exact hf) hn;rcases run with ⟨h1,h2⟩ | ⟨h1,h2⟩
  ·exact .inl ⟨hg.trans h1,h2.congr hr⟩
  ·exact .inr ⟨hg.trans h1,h2⟩
 | fi h1 h2 h3 h4 h5 h6=>exact .fi (hg.trans h1) h2 h3 h4 ((hw _ (by unfold wrO oD;rw [h2,h3];simp)).trans h5) ((hr _ (by rw [h3];simp [opnds])).trans h6)
 | ap h1 hd ho hn hf hs hL hA hl hc hC=>
  rename_i d s y t τ xs l C ys;have hy:rs σ2 y=rs σ1 y:=hr y (by rw [ho];simp [opnds]);refine .ap (hg.trans h1) hd ho hn (by show GX (look σ2 _)=true;rw [hw _ (by unfold wrO oD;rw [hd];simp)];exact hf) ((hw _ (by unfold wrO oD;rw [hd,ho];simp)).trans hs) ?_ (by rw [hy];exact hA) (by rw [hy];exact hl) hc hC;rw [hy]
  exact Pb hL
 | fc h1 hd ho hn hf hs hc h2=>
  exact .fc (hg.trans h1) hd ho hn (by show GX (look σ2 _)=true;rw [hw _ (by unfold wrO oD;rw [hd];simp)];exact hf) ((hw _ (by unfold wrO oD;rw [hd,ho];simp)).trans hs) hc h2
theorem RunL.states:∀ {l:List Oper} {σ:St},RunL nt ops l σ σ'->∃ f:Nat->St,f 0=σ/\f l.length=σ'/\∀ (i:Nat) (o:Oper),l[i]?=some o->Stp nt ops o (f i) (f (i+1))
 | [],σ,h=>⟨λ_=>σ,rfl,h,λi o h=>by simp at h⟩
 | o::l,σ,⟨σ1,h1,h2⟩=>by
  obtain ⟨f,k1,k2,k3⟩:=RunL.states h2;refine ⟨λi=>match i with | 0=>σ | i+1=>f i,rfl,k2,λi o' hi=>?_⟩;rcases i with _ | i
  ·cases hi;rw [<- k1] at h1;exact h1
  ·exact k3 i o' (by simpa using hi)
theorem RS.drew (R:RS b G w0 nt σ a w):RS b G w0 nt σ a w.drew:=by
 obtain ⟨O,H⟩:=R.ro;exact ⟨⟨O,H.inj,H.old,λi x hx=>JZ (w:=w) (w':=w.drew) (λ_ _ _=>rfl) (λ_ _ h=>h) (λm hm=>⟨rfl,rfl,rfl,λ_ _=>rfl⟩) (H.val i x hx)⟩,R.size,R.defers,Hy R.below,R.base⟩
end

end
section
section
variable {a:Act} {d nt m n:Nat} {w w' w0:World} {z:AV} {b:Nat} {G:Nat->Prop} {O:Nat->Option Nat} {σ σ1 σ2 σm σ' τ:St} {v:Value} {o:Oper} {KK:Act->World->Prop} {ops l:List Oper} {ds B:List Nat} {t j k i:Nat} {x:AV} {Q:Exit->Act->World->Prop}
theorem drawn (hd:dOk ops m ds (rtab .any ops.toArray).2 B=true) (h1:RunP nt ops ds (ops.take m) σ σm) (h2:RunL nt ops (ops.drop m) σm σ') (hz:σ.all (λe=>zOk ds e.2)=true) (hm:Tryz.prog.follows .mixedOrders=true):RgOk nt ops true σ σ':=by
 intro b G w0 Q id a w hG R hQ;simp only [dOk,Bool.and_eq_true] at hd;obtain ⟨⟨⟨⟨hw,hk⟩,hpre⟩,htail⟩,hmn⟩:=hd;have hmn:m<=ops.length:=Nat.le_of_ble_eq_true hmn;obtain ⟨es,he1,he2,he3⟩:=RunP.es nt ops ds h1;obtain ⟨f,hf0,hf1,hf2⟩:=RunL.states h2;rw [IT,Nat.min_eq_left hmn] at he1;have hTl:(rtab .any ops.toArray).2.length=ops.length:=by rw [G1];simp
 have hes:∀ i,i<m->∃ o e,ops[i]?=some o/\es[i]?=some e/\PStp nt ops o (selG (λj=>Nat.blt j i) 0 es σ) e/\e.all (λe=>zOk ds e.2)=true/\(wrO o).all ds.contains=true/\
   ∀ j p,j<i->ops[j]?=some p->clash ops p o=true->(B.getD i 0).testBit j=true:=λi hi=>by
  have h3:=List.all_eq_true.1 hpre i (List.mem_range.2 hi);split at h3
  ·rename_i o ho;simp only [Bool.and_eq_true] at h3;obtain ⟨e,e1,e2,e3⟩:=he3 i o (by rw [List.getElem?_take,if_pos hi];exact ho);have h5:=Ji (es:=es) (k:=0) (i:=i) (σ:=σ);simp only [Nat.zero_add] at h5;rw [<- h5] at e2;refine ⟨o,e,ho,e1,e2,e3,h3.1,λj p hj hp hc=>?_⟩;have h6:=List.all_eq_true.1 h3.2 j (List.mem_range.2 hj);rw [hp] at h6;simp only [hc,Bool.not_true,Bool.false_or] at h6;exact h6
  ·cases h3
 have hwr:∀ {j:Nat} {e:St} {t:Nat},es[j]?=some e->look e t≠none->∃ p,ops[j]?=some p/\t∈wrO p/\j<m/\ds.contains t=true:=λ{j e t} hj ht=>by
  have hjm:j<m:=by have:=(List.getElem?_eq_some_iff.1 hj).1;omega
  obtain ⟨p,e',p1,p2,p3,_,p5,_⟩:=hes j hjm;rw [hj] at p2;cases p2;have:=p3.wr ht;exact ⟨p,p1,this,hjm,List.all_eq_true.1 p5 t this⟩
 have hmeet:∀ {a b:List Nat} {t:Nat},t∈a->t∈b->meet a b=true:=λ{a b t} h1 h2=>List.any_eq_true.2 ⟨t,h1,List.contains_iff_mem.2 h2⟩
 have hzall:∀ {bb:Nat->Bool} {t:Nat} {x:AV},look (selG bb 0 es σ) t=some x->zOk ds x=true:=λ{bb t x} h=>by
  refine M7 (p:=λx=>zOk ds x=true) (λe he t x hx=>?_) (λt x hx=>List.all_eq_true.1 hz (t,x) (IB hx)) t x h;obtain ⟨j,hj⟩:=List.mem_iff_getElem?.1 he;have hjm:j<m:=by have:=(List.getElem?_eq_some_iff.1 hj).1;omega
  obtain ⟨p,e',_,p2,_,p4,_⟩:=hes j hjm;rw [hj] at p2;cases p2;exact List.all_eq_true.1 p4 (t,x) (IB hx)
 let I:(Nat->Bool)->Act->World->Prop:=λbb a w=>((∀ j,m<=j->j<ops.length->bb j=false)/\RS b G w0 nt (selG bb 0 es σ) a w)\/(∃ i,m<=i/\i<=ops.length/\(∀ j,j<ops.length->bb j=Nat.blt j i)/\RS b G w0 nt (f (i-m)) a w)
 have hfull:∀ {bb:Nat->Bool},(∀ j,j<m->bb j=true)->selG bb 0 es σ=f 0:=λ{bb} h=>by
  rw [Ia (bb':=λj=>Nat.blt j (0+m)) λj _ hj=>by rw [h j (by omega),EO (by omega)],Ji,List.take_of_length_le (by omega),hf0,he2]
 refine Ht (P:=Tryz.prog) (S:=λ_=>True) (ds:=[]) hm trivial λ_=>?_;refine Wb (T:=rtab .any ops.toArray) (B:=B) (List.range ops.length) I rfl hw hk ?_ ?_ ?_ ?_
 ·have hl:lof (rtab .any ops.toArray).2.length (List.range ops.length) (λ_=>false)=List.replicate ops.length false:=by
   rw [hTl];apply List.ext_getElem?;intro j;rcases Nat.lt_or_ge j ops.length with hj | hj
   ·simp [lof,hj]
   ·rw [List.getElem?_eq_none (by simp [lof];omega),List.getElem?_eq_none (by simp;omega)]
  rw [hl];simp
 ·exact .inl ⟨λ_ _ _=>rfl,by rw [Jh];exact R.drew⟩
 ·intro i hi bb a w hI hbi hwait hlater;have hin:i<ops.length:=List.mem_range.1 hi;have hw2:∀ j,j<ops.length->(B.getD i 0).testBit j=true->bb j=true:=λj hj h=>hwait j (by rw [h,List.contains_iff_mem.2 (List.mem_range.2 hj)];rfl);have hl2:∀ j,j<ops.length->(B.getD j 0).testBit i=true->bb j=false:=λj hj h=>hlater j (by rw [h,List.contains_iff_mem.2 (List.mem_range.2 hj)];rfl)
  have htl:∀ j,m<=j->j<ops.length->∀ k,k<j->(B.getD j 0).testBit k=true:=λj hmj hj k hkj=>by
   have h3:=List.all_eq_true.1 htail j (List.mem_range.2 hj);rw [Ed hmj,Bool.false_or] at h3;exact List.all_eq_true.1 h3 k (List.mem_range.2 hkj)
  rcases Nat.lt_or_ge i m with him | him
  ·obtain ⟨o,e,ho,e1,e2,e3,e4,e5⟩:=hes i him;refine ⟨o,by simpa using ho,λK hK=>?_⟩;have hK:∀ a' w',I (up bb i) a' w'->K a' w':=hK
   have hR:(∀ j,m<=j->j<ops.length->bb j=false)/\RS b G w0 nt (selG bb 0 es σ) a w:=by
    rcases hI with h | ⟨i',h1,_,h3,_⟩
    ·exact h
    ·rw [h3 i hin,EO (by omega)] at hbi;cases hbi
   have hside:∀ {j:Nat} {p:Oper},j<m->ops[j]?=some p->(clash ops p o=true/\clash ops o p=true)->bb j=Nat.blt j i:=λ{j p} hj hp hc=>by
    rcases Nat.lt_trichotomy j i with h | h | h
    ·rw [EO h];exact hw2 j (by omega) (e5 j p h hp hc.1)
    ·rw [h,Ed (Wn _)];exact hbi
    ·rw [Ed (by omega)];obtain ⟨p',_,p1,_,_,_,_,p6⟩:=hes j hj;rw [hp] at p1;cases p1;exact hl2 j (by omega) (p6 i o h ho hc.2)
   have hmc:∀ a b,meet a b=meet b a:=λa b=>by
    rw [Bool.eq_iff_iff];constructor<;>intro h<;>obtain ⟨t,h1,h2⟩:=List.any_eq_true.1 h<;>exact hmeet (List.contains_iff_mem.1 h2) h1
   have hcl:∀ {p:Oper} {t:Nat},t∈wrO p->(t∈opT ops o\/t∈wrO o)->clash ops p o=true/\clash ops o p=true:=λ{p t} h1 h2=>by
    unfold clash;rcases h2 with h2 | h2
    ·have h3:=hmeet h2 h1;rw [h3,hmc (wrO p) (opT ops o),h3];simp
    ·have h3:=hmeet h2 h1;rw [h3,hmc (wrO p) (wrO o),h3];simp
   have hlook:∀ t,(t∈opT ops o\/t∈wrO o)->look (selG bb 0 es σ) t=look (selG (λj=>Nat.blt j i) 0 es σ) t:=λt ht=>FX (λj e' hj hn=>by
    obtain ⟨p,p1,p2,p3,_⟩:=hwr hj hn;rw [Nat.zero_add]
    exact hside p3 p1 (hcl p2 ht)) rfl
   have hPS:PStp nt ops o (selG bb 0 es σ) e:=by
    refine e2.congr (λt ht=>⟨hlook t (.inl ht),λj hj=>?_⟩) (λt ht=>hlook t (.inr ht))
    have hc:ds.contains j=false:=by
     rcases hj with hj | ⟨n,hj⟩
     ·have:=hzall hj;simpa [zOk] using this
     ·have:=hzall hj;simpa [zOk] using this
    exact FX (λj' e' hj' hn=>by
     obtain ⟨_,_,_,_,p4⟩:=hwr hj' hn
     rw [hc] at p4;cases p4) rfl
   obtain ⟨σ2,hS,hS2⟩:=hPS.stp (ds:=ds) (λt x hx=>hzall hx) e4
   have hupd:∀ t,look (selG (up bb i) 0 es σ) t=look (e++selG bb 0 es σ) t:=λt=>by
    cases hl:look e t with
    | none=>
     rw [Le hl]
     exact FX (λj e' hj hn=>by
      have hji:j≠i:=λh=>by subst h;rw [e1] at hj;cases hj;exact hn hl
      rw [Nat.zero_add,IU hji]) rfl
    | some x=>
     rw [Jc hl];refine M8 e1 (by rw [Nat.zero_add,IV]) hl λj e' hj hn hij=>?_;obtain ⟨p,p1,p2,p3,_⟩:=hwr hj hn;rw [Nat.zero_add,IU (by omega),hside p3 p1 (hcl p2 (.inr (e2.wr (by rw [hl];exact Option.some_ne_none _))))];exact Ed (by omega)
   refine hS.ok hR.2 hG λa' w' R'=>hK a' w' (.inl ⟨λj hmj hj=>by rw [IU (by omega)];exact hR.1 j hmj hj,R'.ext λt x hx=>?_⟩);have hlk:∀ t,look (selG (up bb i) 0 es σ) t=look σ2 t:=λt=>(hupd t).trans (hS2 t).symm;exact ⟨by rw [<- hlk];exact hx,λk _=>hlk k⟩
  ·have hall:∀ j,j<ops.length->bb j=Nat.blt j i:=λj hj=>by
    rcases Nat.lt_trichotomy j i with h | h | h
    ·rw [EO h];exact hw2 j hj (htl i him hin j h)
    ·rw [h,Ed (Wn _)];exact hbi
    ·rw [Ed (by omega)];exact hl2 j hj (htl j (by omega) hj i h)
   have hR:RS b G w0 nt (f (i-m)) a w:=by
    rcases hI with ⟨h1,h2⟩ | ⟨i',h1,h2,h3,h4⟩
    ·have him':i=m:=by
      rcases Nat.eq_or_lt_of_le him with h | h
      ·exact h.symm
      ·have h5:=hall m (by omega);rw [h1 m (Wn _) (by omega),EO h] at h5;cases h5
     rw [him',Nat.sub_self,<- hfull (bb:=bb) λj hj=>by rw [hall j (by omega),EO (by omega)]];exact h2
    ·have:i'=i:=by
      rcases Nat.lt_trichotomy i' i with h | h | h
      ·have h5:=hall i' (by omega);rw [h3 i' (by omega),Ed (Wn _),EO h] at h5;cases h5
      ·exact h
      ·rw [h3 i hin,EO h] at hbi;cases hbi
     rw [<- this];exact h4
   refine ⟨ops[i],by simp [hin],λK hK=>?_⟩;have hK:∀ a' w',I (up bb i) a' w'->K a' w':=hK;have hS:=hf2 (i-m) ops[i] (by rw [List.getElem?_drop,show m+(i-m)=i by omega,WH hin]);refine hS.ok hR hG λa' w' R'=>hK a' w' (.inr ⟨i+1,by omega,by omega,λj hj=>?_,by rw [show i+1-m=i-m+1 by omega];exact R'⟩);by_cases hji:j=i
   ·rw [hji,IV,EO (by omega)]
   ·rw [IU hji,hall j hj];rcases Nat.lt_or_ge j i with h | h
    ·rw [EO h,EO (by omega)]
    ·rw [Ed h,Ed (by omega)]
 ·intro bb a w hall hI;have hall:∀ j,j<ops.length->bb j=true:=λj hj=>hall j (List.contains_iff_mem.2 (List.mem_range.2 hj));refine hQ a w ?_;rw [No] at hf1;rcases hI with ⟨h1,h2⟩ | ⟨i,h1,h2,h3,h4⟩
  ·have hmn2:m=ops.length:=by
    rcases Nat.eq_or_lt_of_le hmn with h | h
    ·exact h
    ·have:=h1 m (Wn _) h;rw [hall m h] at this;cases this
   rw [hfull λj hj=>hall j (by omega)] at h2;rw [<- hf1,show ops.length-m=0 by omega];exact h2
  ·have hin:i=ops.length:=by
    rcases Nat.eq_or_lt_of_le h2 with h | h
    ·exact h
    ·have:=h3 i h;rw [hall i h,Ed (Wn _)] at this;cases this
   rw [<- hf1,<- hin];exact h4
end

end
section
class T (p:Prop):Prop where out:p
instance:T True:=⟨trivial⟩
instance {p q:Prop} [hp:T p] [hq:T q]:T (p/\q):=⟨hp.out,hq.out⟩
instance {p:Prop} [Decidable p] [h:T p]:T (decide p=true):=⟨Wo h.out⟩
instance {p:Prop} [Decidable p] [h:T (¬ p)]:T (decide p=false):=⟨Wp h.out⟩
instance {q:Bool} [h:T (q=false)]:T ((!q)=true):=⟨by rw [h.out];rfl⟩
instance {q:Bool} [h:T (q=true)]:T ((!q)=false):=⟨by rw [h.out];rfl⟩
instance (priority:=low) {q:Bool} [h:T (¬ q=true)]:T (q=false):=⟨by simpa using h.out⟩
instance {a:ByteArray} {l:List UInt8} [h:T (a.toList=l)]:T (a.toList=ByteArray.toList ⟨l.toArray⟩):=⟨by rw [h.out,ByteArray.toList_eq]⟩
instance {a:ByteArray} {l:List UInt8} [h:T (¬ a.toList=l)]:T (¬ a.toList=ByteArray.toList ⟨l.toArray⟩):=⟨by rw [show ByteArray.toList ⟨l.toArray⟩=l by rw [ByteArray.toList_eq]];exact h.out⟩
instance:T (true=true):=⟨rfl⟩
instance:T (false=false):=⟨rfl⟩
section
variable {α β:Type} {c:Prop} {dc:Decidable c} {x y:Option α} {r:α}
theorem ipn (h:(if c then x else none)=some r):T c/\x=some r:=by
 split at h
 ·rename_i hc;exact ⟨⟨hc⟩,h⟩
 ·cases h
theorem its (h:(if c then x else y)=some r):(T c/\x=some r)\/(T (¬ c)/\y=some r):=by
 split at h
 ·rename_i hc;exact .inl ⟨⟨hc⟩,h⟩
 ·rename_i hc;exact .inr ⟨⟨hc⟩,h⟩
end
def Stq (pre:Option (List Nat)) (nt:Nat) (ops:List Oper) (o:Oper) (σ σ1:St):Prop:=match pre with
 | none=>Stp nt ops o σ σ1
 | some ds=>∃ e,PStp nt ops o σ e/\e.all (λe=>zOk ds e.2)=true/\σ1=e++σ
def RunQ (pre:Option (List Nat)) (nt:Nat) (ops:List Oper):List Oper->St->St->Prop
 | [],σ,σ'=>σ=σ'
 | o::l,σ,σ'=>∃ σ1,Stq pre nt ops o σ σ1/\RunQ pre nt ops l σ1 σ'
def RK (pre:Option (List Nat)) (nt:Nat) (ops l:List Oper) (σ:St) (K:St->Prop):Prop:=∃ σ',RunQ pre nt ops l σ σ'/\K σ'
def zk:Option (List Nat)->AV->Bool | none,_=>true | some ds,z=>zOk ds z
def csQ (pre:Option (List Nat)) (σ:St) (ty:Nat) (d:Option Nat) (op:Op):Option (Prop×St):=match pre with
 | none=>csOp σ ty d op
 | some _=>none
def bulk (pre:Option (List Nat)) (nt:Nat):List Oper->St->Prop->Prop×List Oper×St
 | [],σ,C=>(C,[],σ)
 | o::l,σ,C=>match o.guard with
  | some _=>(C,o::l,σ)
  | none=>match o.dst with
   | none=>match csQ pre σ o.type none o.op with
    | some (C',σ')=>bulk pre nt l σ' (C'/\C)
    | none=>(C,o::l,σ)
   | some d=>bif Nat.blt d nt then
     match (match sv (rs σ) o.op with
      | some (C',z)=>bif free σ d&&zk pre z then some (C',(d,z)::σ) else none
      | none=>none) with
     | some (C',σ')=>bulk pre nt l σ' (C'/\C)
     | none=>match csQ pre σ o.type (some d) o.op with
      | some (C',σ')=>bulk pre nt l σ' (C'/\C)
      | none=>(C,o::l,σ)
    else (C,o::l,σ)
section
variable {pre:Option (List Nat)} {nt:Nat} {ops l l':List Oper} {σ σ':St} {K:St->Prop} {o:Oper} {C:Prop} {d:Nat} {z:AV} {Q:Exit->St->Prop} {x y:Code} {id k:Nat}
theorem IX:∀ {l:List Oper} {σ:St},RunQ none nt ops l σ σ'->RunL nt ops l σ σ'
 | [],_,h=>h
 | _::_,_,⟨σ1,h1,h2⟩=>⟨σ1,h1,IX h2⟩
theorem KU {ds:List Nat}:∀ {l:List Oper} {σ:St},RunQ (some ds) nt ops l σ σ'->RunP nt ops ds l σ σ'
 | [],_,h=>h
 | _::_,_,⟨σ1,⟨e,h1,h2,h3⟩,h4⟩=>⟨e,h1,h2,by rw [<- h3];exact KU h4⟩
theorem Stq.of (h:PStp nt ops o σ [(d,z)]) (hz:zk pre z=true):Stq pre nt ops o σ ((d,z)::σ):=by
 cases pre with
 | none=>
  cases h with
  | pu hd run hf hn=>
   rcases run with ⟨h1,h2⟩ | ⟨h1,h2⟩
   ·exact .sb h1 hd h2 hf hn
   ·subst h2;exact .off h1 hd hf hn
  | fi hg hd ho ht hl hy=>exact .fi hg hd ho ht hl hy
 | some ds=>exact ⟨[(d,z)],h,by simpa [zk] using hz,rfl⟩
theorem RK.step {σ1:St} (h:Stq pre nt ops o σ σ1) (hk:RK pre nt ops l σ1 K):RK pre nt ops (o::l) σ K:=by
 obtain ⟨σ',h1,h2⟩:=hk;exact ⟨σ',⟨σ1,h,h1⟩,h2⟩
theorem JO:∀ {l:List Oper} {σ:St} {C0:Prop} {C:Prop} {l':List Oper} {σ':St},bulk pre nt l σ C0=(C,l',σ')->C->RK pre nt ops l' σ' K->C0/\RK pre nt ops l σ K
 | [],σ,C0,C,l',σ',h,hC,hk=>by cases h;exact ⟨hC,hk⟩
 | o::l,σ,C0,C,l',σ',h,hC,hk=>by
  have cs:∀ {C1 σ1},o.guard=none->(∀ d,o.dst=some d->d<nt)->csQ pre σ o.type o.dst o.op=some (C1,σ1)->bulk pre nt l σ1 (C1/\C0)=(C,l',σ')->C0/\RK pre nt ops (o::l) σ K:=λhg hn h1 h2=>by
   obtain ⟨⟨k1,k2⟩,k3⟩:=JO h2 hC hk
   cases pre with
   | none=>exact ⟨k2,RK.step (σ1:=_) (Stp.cs (by rw [hg];rfl) hn h1 k1) k3⟩
   | some ds=>cases h1
  unfold bulk at h;split at h
  ·cases h;exact ⟨hC,hk⟩
  ·rename_i hg;split at h
   ·rename_i hd;split at h
    ·rename_i h1;exact cs hg (λd e=>by rw [hd] at e;cases e) (by rw [hd];exact h1) h
    ·cases h;exact ⟨hC,hk⟩
   ·rename_i d hd
    cases hn:Nat.blt d nt with
    | false=>rw [hn] at h;cases h;exact ⟨hC,hk⟩
    | true=>
     rw [hn] at h;have hn':∀ d',o.dst=some d'->d'<nt:=λd' e=>by rw [hd] at e;cases e;exact F5 hn
     simp only [cond_true] at h;split at h
     ·rename_i C1 σ1 h1;split at h1
      ·rename_i C2 z h2
       cases hf:free σ d&&zk pre z with
       | false=>rw [hf] at h1;cases h1
       | true=>
        rw [hf] at h1;cases h1;simp only [Bool.and_eq_true] at hf;obtain ⟨⟨k1,k2⟩,k3⟩:=JO h hC hk;exact ⟨k2,.step (Stq.of (.pu hd (.inl ⟨by rw [hg];rfl,.sv h2 k1⟩) hf.1 (F5 hn)) hf.2) k3⟩
      ·cases h1
     ·split at h
      ·rename_i h2;exact cs hg hn' (by rw [hd];exact h2) h
      ·cases h;exact ⟨hC,hk⟩
end

end
section
def isPre (q r:Bool) (o:Oper):Bool:=match o.op with
 | .assign _=>q&&o.dst.isSome
 | .store _ (.tmp _) _=>q&&!o.dst.isSome
 | .call { callee:=.builtin .append,.. }=>r&&o.dst.isSome
 | _=>o.dst.isSome
def preN (q r:Bool):List Oper->Nat
 | []=>0
 | o::l=>bif isPre q r o then preN q r l+1 else 0
def dsOf (q r:Bool):List Oper->List Nat
 | []=>[]
 | o::l=>bif isPre q r o then wrO o++dsOf q r l else []
def gdb (σ:St) (ops:List Oper) (k:Nat):Option Bool:=match ops[k]? with
 | some o=>match o.dst with
  | some d=>match look σ d with
   | some (.v (.b q))=>some q
   | _=>none
  | none=>none
 | none=>none
section
variable {pre:Option (List Nat)} {nt:Nat} {ops l l':List Oper} {σ σ':St} {K:St->Prop} {o:Oper} {C:Prop} {d:Nat} {z:AV} {Q:Exit->St->Prop} {x y:Code} {id k:Nat} {op:Op} {ty:Nat} {p:String} {af:Array Edge} {g:Option (Nat×Bool)} {c:Operand} {q r:Bool}
theorem RK.nil (h:K σ):RK pre nt ops [] σ K:=⟨σ,rfl,h⟩
theorem RK.bk (h:bulk pre nt l σ True=(C,l',σ')) (hp:Nat.blt l'.length l.length=true) [hC:T C] (k:RK pre nt ops l' σ' K):RK pre nt ops l σ K:=(JO h hC.out k).2
theorem RK.bk' (h:bulk pre nt l σ True=(C,l',σ')) (hp:Nat.blt l'.length l.length=true) (hC:C) (k:RK pre nt ops l' σ' K):RK pre nt ops l σ K:=(JO h hC k).2
theorem NK {k:Nat} {want:Bool} (h:gdb σ ops k=some q):gd σ ops (some (k,want))=some (q==want):=by
 unfold gdb at h;unfold gd;split at h
 ·rename_i o ho
  try simp only [ho]
  split at h
  ·rename_i d hd
   try simp only [hd]
   split at h
   ·rename_i q' hl;cases h;simp only [hl]
   ·cases h
  ·cases h
 ·cases h
theorem Q2 {m:Nat} {x:BV} (h:look σ d=some (.v x)) (hx:x.own=false):look (frz m σ) d=some (.v x):=by
 unfold frz;split
 ·rename_i t xs hl;rw [Bm];split
  ·rename_i e;subst e;rw [h] at hl;cases hl;cases hx
  ·rename_i e;refine EW h ?_;have h0:Nat.beq d m=false:=C7.2 (Ne.symm e);exact h0
 ·exact h
theorem SK {m k:Nat} (h:gdb σ ops k=some q):gdb (frz m σ) ops k=some q:=by
 unfold gdb at h ⊢
 cases ho:ops[k]? with
 | none=>rw [ho] at h;cases h
 | some o=>
  rw [ho] at h
  cases hd:o.dst with
  | none=>simp [hd] at h
  | some d=>
   simp only [hd] at h ⊢;split at h
   ·rename_i q' hl;rw [Q2 hl rfl];exact h
   ·cases h
theorem Stp.on {want:Bool} {σ1:St} (hg:gdb σ ops k=some q) (hq:q=want) (h1:Stp nt ops ⟨some d,op,ty,p,af,none⟩ σ σ1):Stp nt ops ⟨some d,op,ty,p,af,some (k,want)⟩ σ σ1:=by
 have hg2:∀ {σ},gdb σ ops k=some q->gd σ ops (some (k,want))=some true:=λh=>by rw [NK h,hq];simp
 generalize ho:(⟨some d,op,ty,p,af,none⟩:Oper)=o at h1
 induction h1 with
 | fz m _ ih=>exact .fz m (ih (SK hg))
 | sb _ hd h hf hn=>subst ho;exact .sb (hg2 hg) hd h hf hn
 | off hg'=>subst ho;cases hg'
 | cs _ hn h hC=>subst ho;exact .cs (hg2 hg) hn h hC
 | fi _ hd=>subst ho;cases hd
theorem RK.on {want:Bool} (h:gdb σ ops k=some q) [hq:T (q=want)] (hk:RK pre nt ops (⟨some d,op,ty,p,af,none⟩::l) σ K):RK pre nt ops (⟨some d,op,ty,p,af,some (k,want)⟩::l) σ K:=by
 obtain ⟨σ',⟨σ1,h1,h2⟩,h3⟩:=hk;have hg:gd σ ops (some (k,want))=some true:=by rw [NK h,hq.out];simp
 refine ⟨σ',⟨σ1,?_,h2⟩,h3⟩
 cases pre with
 | none=>
  exact Stp.on h hq.out h1
 | some ds=>
  obtain ⟨e,e1,e5,e6⟩:=h1;refine ⟨e,?_,e5,e6⟩
  cases e1 with
  | pu hd run hf hn=>
   rcases run with ⟨_,h2⟩ | ⟨h2,_⟩
   ·exact .pu hd (.inl ⟨hg,h2⟩) hf hn
   ·cases h2
  | fi _ hd=>cases hd
  | ap _ hd ho hn hf hs hL hA hl hc hC=>exact .ap hg hd ho hn hf hs hL hA hl hc hC
  | fc _ hd ho hn hf hs hc h1=>exact .fc hg hd ho hn hf hs hc h1
theorem RK.off {want:Bool} (h:gdb σ ops k=some q) [hq:T (q=!want)] (hn:(Nat.blt d nt&&free σ d)=true) (hk:RK pre nt ops l ((d,.v .vd)::σ) K):RK pre nt ops (⟨some d,op,ty,p,af,some (k,want)⟩::l) σ K:=by
 simp only [Bool.and_eq_true] at hn;exact .step (Stq.of (.pu rfl (.inr ⟨by rw [show (⟨some d,op,ty,p,af,some (k,want)⟩:Oper).guard=some (k,want) from rfl,NK h,hq.out];cases want<;>rfl,rfl⟩) hn.2 (F5 hn.1)) (by cases pre<;>rfl)) hk
theorem RK.pickT {x y:Operand} (hc:rs σ c=.v (.b q)) [hq:T (q=true)] (hx:rs σ x=.v (.b r)) (hn:(Nat.blt d nt&&free σ d)=true) (hk:RK pre nt ops l ((d,.v (.b r))::σ) K):RK pre nt ops (⟨some d,.pick c x y,ty,p,af,none⟩::l) σ K:=by
 simp only [Bool.and_eq_true] at hn;exact .step (Stq.of (.pu rfl (.inl ⟨rfl,.pick rfl hc (by rw [hq.out];exact hx)⟩) hn.2 (F5 hn.1)) (by cases pre<;>rfl)) hk
theorem RK.pickF {x y:Operand} (hc:rs σ c=.v (.b q)) [hq:T (q=false)] (hy:rs σ y=.v (.b r)) (hn:(Nat.blt d nt&&free σ d)=true) (hk:RK pre nt ops l ((d,.v (.b r))::σ) K):RK pre nt ops (⟨some d,.pick c x y,ty,p,af,none⟩::l) σ K:=by
 simp only [Bool.and_eq_true] at hn;exact .step (Stq.of (.pu rfl (.inl ⟨rfl,.pick rfl hc (by rw [hq.out];exact hy)⟩) hn.2 (F5 hn.1)) (by cases pre<;>rfl)) hk
theorem RK.fz (k:Nat) {t:Ty} {xs:List t.A} (h:look σ k=some (.v (.o t xs))) (hk:RK none nt ops (o::l) ((k,.v (.f t xs))::kill k σ) K):RK none nt ops (o::l) σ K:=by
 have e:frz k σ=(k,.v (.f t xs))::kill k σ:=by unfold frz;rw [h]
 rw [<- e] at hk;obtain ⟨σ',⟨σ1,h1,h2⟩,h3⟩:=hk;exact ⟨σ',⟨σ1,.fz k h1,h2⟩,h3⟩
theorem RK.ap {ds:List Nat} {s t:Nat} {τ:Ty} {xs ys:List τ.A} {y:Operand} {lv:LV} (hs:look σ s=some (.v (.o τ xs))) (hL:csLL σ d t s τ xs (rs σ y)=none) (hA:(Nat.beq t τ.t&&awayR s (rs σ y))=true) (hl:lsOf (rs σ y)=some lv) (hc:catE τ xs lv=some (C,ys)) (hC:C) (hn:(Nat.blt d nt&&free σ d)=true)
  (hk:RK (some ds) nt ops l ((d,.v (.o τ ys))::(s,.v .u)::σ) K):RK (some ds) nt ops (⟨some d,.call { callee:=.builtin .append,args:=#[.tmp s,y],argTypes:=#[t,t] },ty,p,af,none⟩::l) σ K:=by
 simp only [Bool.and_eq_true] at hn;obtain ⟨σ',h1,h2⟩:=hk;exact ⟨σ',⟨_,⟨_,.ap rfl rfl rfl (F5 hn.1) hn.2 hs hL hA hl hc hC,by simp [zOk],rfl⟩,h1⟩,h2⟩
theorem RK.fc {ds:List Nat} {s f:Nat} {τ:Ty} {xs:List τ.A} {res:List BV} {ats:Array Nat} (hs:look σ s=some (.v (.o τ xs))) (hc:Ct f [.f τ xs] res) (h1:tupOk res=true) (hn:(Nat.blt d nt&&free σ d)=true)
  (hk:RK (some ds) nt ops l ((d,resOf res)::(s,.v (.f τ xs))::σ) K):RK (some ds) nt ops (⟨some d,.call { callee:=.value (.func f),args:=#[.tmp s],argTypes:=ats },ty,p,af,none⟩::l) σ K:=by
 simp only [Bool.and_eq_true] at hn;obtain ⟨σ',h2,h3⟩:=hk;refine ⟨σ',⟨_,⟨_,.fc rfl rfl rfl (F5 hn.1) hn.2 hs hc h1,?_,rfl⟩,h2⟩,h3⟩;have:zOk ds (resOf res)=true:=by unfold resOf;split<;>rfl
 show (zOk ds (resOf res)&&(true&&true))=true;rw [this];rfl
theorem RK.fi {q:Tq} {r:q.S} {t:Nat} {y:Operand} (hl:look σ d=some (.z q)) (hy:rs σ y=.v (.h (.k q r))) (ht:Nat.beq t q.e=true) (hk:RK pre nt ops l ((d,.v (.h (.r q r)))::σ) K):RK pre nt ops (⟨none,.store t (.tmp d) y,ty,p,af,none⟩::l) σ K:=
 .step (Stq.of (.fi rfl rfl rfl (Nat.eq_of_beq_eq_true ht) hl hy) (by cases pre<;>rfl)) hk
theorem U7 {res:List BV}:zk pre (resOf res)=true:=by
 cases pre with
 | none=>rfl
 | some ds=>unfold resOf;split<;>rfl
theorem RK.call {f:Nat} {args:Array Operand} {ats:Array Nat} {ins res:List BV} (hc:Ct f ins res) (ha:F4 (rs σ) args.toList=some ins) (h1:(tupOk res&&(!(args.toList.any λx=>isA (rs σ x))||res.all BV.clean))=true) (hn:(Nat.blt d nt&&free σ d)=true) (hk:RK pre nt ops l ((d,resOf res)::σ) K) :
  RK pre nt ops (⟨some d,.call { callee:=.value (.func f),args:=args,argTypes:=ats },ty,p,af,none⟩::l) σ K:=by
 simp only [Bool.and_eq_true,Bool.or_eq_true,Bool.not_eq_true'] at h1 hn;exact .step (Stq.of (.pu rfl (.inl ⟨rfl,.call rfl ha hc h1.1 h1.2⟩) hn.2 (F5 hn.1)) U7) hk
theorem T4 (h:awp nt x (thenS (awp nt y Q) Q) σ):awp nt (.seq x y) Q σ:=h
theorem Vj {ops:Array Oper} (h:RK none nt ops.toList ops.toList σ (Q .normal)):awp nt (.region id ops false) Q σ:=by
 obtain ⟨σ',h1,h2⟩:=h;exact ⟨σ',(IX h1).rg,h2⟩
theorem DB (qq rr:Bool) {ops:Array Oper} (hd:dOk ops.toList (preN qq rr ops.toList) (dsOf qq rr ops.toList) (rtab .any ops.toList.toArray).2 (mkB (rtab .any ops.toList.toArray).2)=true) (hz:σ.all (λe=>zOk (dsOf qq rr ops.toList) e.2)=true) (h:RK (some (dsOf qq rr ops.toList)) nt ops.toList (ops.toList.take (preN qq rr ops.toList)) σ λσm=>RK none nt ops.toList (ops.toList.drop (preN qq rr ops.toList)) σm (Q .normal)):awp nt (.region id ops true) Q σ:=by
 obtain ⟨σm,h1,σ',h2,h3⟩:=h;exact ⟨σ',drawn hd (KU h1) (IX h2) hz (by kernel_rfl),h3⟩
theorem Ve (h:awp nt x (FQ id Q) σ):awp nt (.block id x) Q σ:=h
theorem Vk (h:Q .normal σ):awp nt .skip Q σ:=h
theorem Vf (h:Q (.exit id) σ):awp nt (.exit id) Q σ:=h
theorem Vi (h:Q .ret σ):awp nt .ret Q σ:=h
theorem Vg (I:Nat->St->Prop) (n:Nat) (τ:St) (h0:I n τ) (hs:subS τ σ/\Fj τ=true) (h:∀ n τ,I n τ->awp nt x (thenS (λσ'=>∃ m τ',m<n/\I m τ'/\subS τ' σ'/\Fj τ'=true) Q) τ):awp nt (.loop x) Q σ:=⟨I,n,τ,h0,hs,h⟩
theorem Wh {K:St->Prop} (h:K σ):thenS K Q .normal σ:=h
theorem Wj {K:St->Prop} (h:Q (.exit id) σ):thenS K Q (.exit id) σ:=h
theorem Wi {K:St->Prop} (h:Q .ret σ):thenS K Q .ret σ:=h
theorem V6 (h:Q .normal σ):FQ id Q .normal σ:=h
theorem V7 (h:Q .ret σ):FQ id Q .ret σ:=h
theorem V8 (hk:Nat.beq k id=true) (h:Q .normal σ):FQ id Q (.exit k) σ:=by show (bif Nat.beq k id then _ else _);rw [hk];exact h
theorem V9 (hk:Nat.beq k id=false) (h:Q (.exit k) σ):FQ id Q (.exit k) σ:=by show (bif Nat.beq k id then _ else _);rw [hk];exact h
end

end
section
class Ne0 (m n:Nat):Prop where h:Nat.beq m n=false
instance {n:Nat}:Ne0 0 (n+1):=⟨rfl⟩
instance {n:Nat}:Ne0 (n+1) 0:=⟨rfl⟩
instance {m n:Nat} [h:Ne0 m n]:Ne0 (m+1) (n+1):=⟨C7.2 λe=>C7.1 h.h (by omega)⟩
class GoR (p:Prop) (q:outParam Prop):Prop where go:q->p
class Go (p:Prop) (q:outParam Prop):Prop where go:q->p
class Dec (q:Bool) (v:outParam Bool):Prop where h:q=v
instance {q:Bool} [h:T (q=true)]:Dec q true:=⟨h.out⟩
instance (priority:=low) {q:Bool} [h:T (q=false)]:Dec q false:=⟨h.out⟩
instance:T ((0:Int)<=0):=⟨by decide⟩
instance:T ((0:Int)<=1):=⟨by decide⟩
instance:T ((0:Int)<=2):=⟨by decide⟩
section
variable {pre:Option (List Nat)} {nt:Nat} {ops l l':List Oper} {σ σ':St} {K:St->Prop} {o:Oper} {C p q':Prop} {d:Nat} {z:AV} {Q:Exit->St->Prop} {x y:Code} {id k:Nat} {op:Op} {ty:Nat} {ps:String} {af:Array Edge} {g:Option (Nat×Bool)} {c:Operand} {q r v:Bool} {a:Array Oper} {u w:Operand}
instance (priority:=low):GoR p p:=⟨λh=>h⟩
instance [h:Go p q']:GoR p q':=⟨h.go⟩
instance [h:GoR (awp nt x (thenS (awp nt y Q) Q) σ) p]:Go (awp nt (.seq x y) Q σ) p:=⟨λk=>T4 (h.go k)⟩
instance [h:GoR (awp nt x (FQ id Q) σ) p]:Go (awp nt (.block id x) Q σ) p:=⟨λk=>Ve (h.go k)⟩
instance [h:GoR (Q .normal σ) p]:Go (awp nt .skip Q σ) p:=⟨λk=>Vk (h.go k)⟩
instance [h:GoR (Q (.exit id) σ) p]:Go (awp nt (.exit id) Q σ) p:=⟨λk=>Vf (h.go k)⟩
instance [h:GoR (Q .ret σ) p]:Go (awp nt .ret Q σ) p:=⟨λk=>Vi (h.go k)⟩
instance:Go (awp nt (.region id a false) Q σ) (RK none nt a.toList a.toList σ (Q .normal)):=⟨Vj⟩
instance [h:GoR (awp nt x Q σ) p]:Go (awp nt (cond true x y) Q σ) p:=⟨λk=>h.go k⟩
instance [h:GoR (awp nt y Q σ) p]:Go (awp nt (cond false x y) Q σ) p:=⟨λk=>h.go k⟩
instance [h:GoR (K σ) p]:Go (thenS K Q .normal σ) p:=⟨λk=>Wh (h.go k)⟩
instance [h:GoR (Q (.exit id) σ) p]:Go (thenS K Q (.exit id) σ) p:=⟨λk=>Wj (h.go k)⟩
instance [h:GoR (Q .ret σ) p]:Go (thenS K Q .ret σ) p:=⟨λk=>Wi (h.go k)⟩
instance [h:GoR (Q .normal σ) p]:Go (FQ id Q .normal σ) p:=⟨λk=>V6 (h.go k)⟩
instance [h:GoR (Q .ret σ) p]:Go (FQ id Q .ret σ) p:=⟨λk=>V7 (h.go k)⟩
instance [h:GoR (Q .normal σ) p]:Go (FQ id Q (.exit id) σ) p:=⟨λk=>V8 (Nat.beq_refl id) (h.go k)⟩
instance (priority:=low) [e:Ne0 k id] [h:GoR (Q (.exit k) σ) p]:Go (FQ id Q (.exit k) σ) p:=⟨λj=>V9 e.h (h.go j)⟩
instance [h:GoR (K σ) p]:Go (RK pre nt ops [] σ K) p:=⟨λk=>RK.nil (h.go k)⟩
theorem Si (hc:rs σ c=.v (.b q)) [hq:Dec q v] (h:awp nt (cond v x y) Q σ):awp nt (.cond c x y) Q σ:=⟨q,hc,by rw [hq.h];cases v<;>exact h⟩
theorem RK.gg {want:Bool} (h:gdb σ ops k=some q) [hq:Dec q v] (hn:(Nat.blt d nt&&free σ d)=true) (hk:RK pre nt ops (cond (v==want) (⟨some d,op,ty,ps,af,none⟩::l) l) (cond (v==want) σ ((d,.v .vd)::σ)) K):RK pre nt ops (⟨some d,op,ty,ps,af,some (k,want)⟩::l) σ K:=by
 have e:=hq.h;subst e;cases q<;>cases want
 ·exact RK.on h (hq:=⟨rfl⟩) hk
 ·exact RK.off h (hq:=⟨rfl⟩) hn hk
 ·exact RK.off h (hq:=⟨rfl⟩) hn hk
 ·exact RK.on h (hq:=⟨rfl⟩) hk
theorem RK.pk (hc:rs σ c=.v (.b q)) [hq:Dec q v] (hx:rs σ (cond v u w)=.v (.b r)) (hn:(Nat.blt d nt&&free σ d)=true) (hk:RK pre nt ops l ((d,.v (.b r))::σ) K):RK pre nt ops (⟨some d,.pick c u w,ty,ps,af,none⟩::l) σ K:=by
 have e:=hq.h;subst e;cases q
 ·exact RK.pickF hc (hq:=⟨rfl⟩) hx hn hk
 ·exact RK.pickT hc (hq:=⟨rfl⟩) hx hn hk
theorem spn {α:Type} {c:Prop} {dc:Decidable c} {x:Option α} {r:α} {G:Prop} (h:T c->x=some r->G) (e:(if c then x else none)=some r):G:=h (ipn e).1 (ipn e).2
theorem spi {α:Type} {c:Prop} {dc:Decidable c} {x y:Option α} {r:α} {G:Prop} (h1:T c->x=some r->G) (h2:T (¬ c)->y=some r->G) (e:(if c then x else y)=some r):G:=(its e).elim (λh=>h1 h.1 h.2) (λh=>h2 h.1 h.2)
theorem spc {α:Type} {c:Prop} {dc:Decidable c} {x y:Option α} {r:α} {G:Prop} [h:T c] (k:x=some r->G) (e:(if c then x else y)=some r):G:=k (by rw [if_pos h.out] at e;exact e)
theorem spe {α:Type} {c:Prop} {dc:Decidable c} {x y:Option α} {r:α} {G:Prop} [h:T (¬ c)] (k:y=some r->G) (e:(if c then x else y)=some r):G:=k (by rw [if_neg h.out] at e;exact e)
theorem spd {α:Type} {c:Prop} {dc:Decidable c} {x y:Option α} {r:α} {G:Prop} {dd:Decidable (decide c=true)} (h1:T c->x=some r->G) (h2:T (¬ c)->y=some r->G) (e:(if decide c=true then x else y)=some r):G:=by
 rcases its e with ⟨⟨h⟩,k⟩ | ⟨⟨h⟩,k⟩
 ·exact h1 ⟨of_decide_eq_true h⟩ k
 ·exact h2 ⟨λhc=>h (Wo hc)⟩ k
theorem spq {α:Type} {m n:Int} {x y:Option α} {r:α} {G:Prop} {dd:Decidable ((m==n)=true)} (h1:T (m=n)->x=some r->G) (h2:T (¬ m=n)->y=some r->G) (e:(if (m==n)=true then x else y)=some r):G:=by
 rcases its e with ⟨⟨h⟩,k⟩ | ⟨⟨h⟩,k⟩
 ·exact h1 ⟨by simpa using h⟩ k
 ·exact h2 ⟨by simpa using h⟩ k
theorem spm {α:Type} {m n:Int} {x y:Option α} {r:α} {G:Prop} {dd:Decidable ((m != n)=true)} (h1:T (¬ m=n)->x=some r->G) (h2:T (m=n)->y=some r->G) (e:(if (m != n)=true then x else y)=some r):G:=by
 rcases its e with ⟨⟨h⟩,k⟩ | ⟨⟨h⟩,k⟩
 ·exact h1 ⟨by simpa using h⟩ k
 ·exact h2 ⟨by simpa using h⟩ k
theorem spt {α:Type} {x y:Option α} {r:α} {G:Prop} {dd:Decidable (true=true)} (h:x=some r->G) (e:(if true=true then x else y)=some r):G:=h (by rw [if_pos rfl] at e;exact e)
theorem spf {α:Type} {x y:Option α} {r:α} {G:Prop} {dd:Decidable (false=true)} (h:y=some r->G) (e:(if false=true then x else y)=some r):G:=h (by rw [if_neg Bool.false_ne_true] at e;exact e)
theorem sps {α β:Type} {t:β} {f:β->Option α} {r:α} {G:Prop} (h:f t=some r->G) (e:(some t).bind f=some r):G:=h e
theorem spa {α β:Type} {x:Option β} {t:β} {f:β->Option α} {r:α} {G:Prop} (h0:x=some t) (h:f t=some r->G) (e:x.bind f=some r):G:=h (by rw [h0] at e;exact e)
theorem spb {α β:Type} {x:Option β} {f:β->Option α} {r:α} {G:Prop} (h:∀ t,x=some t->f t=some r->G) (e:x.bind f=some r):G:=by
 obtain ⟨t,h1,h2⟩:=By.1 e;exact h t h1 h2
theorem spr {α:Type} {x r:α} {G:Prop} (h:x=r->G) (e:some x=some r):G:=h (AS e)
end
theorem spz {α:Type} {r:α} {G:Prop}:(none=some r)->G:=λh=>by cases h
theorem Ax {f:Nat} {fn:Func} {c:Code} {ins res:List BV} {P:Prop} (hf:Tryz.prog.funcs[f]?=some fn) (hb:fn.body=some c) (hname:(fn.name== "runtime.NumGoroutine")=false) (hn':Nat.ble ins.length fn.ntmps=true) (ho:ins.all (λx=>!x.own)=true) (h:P->awp fn.ntmps c (retQ fn.results.toList res) (parS 0 ins)) (e:P):Ct f ins res:=Vn hf hb hname hn' ho (h e)
theorem Mp {p:Prop}:T p↔p:=⟨λh=>h.out,λh=>⟨h⟩⟩
theorem bsz {l:List UInt8}:ByteArray.size ⟨l.toArray⟩=l.length:=by simp [ByteArray.size]
theorem BA {nt:Nat} {x:Code} {Q:Exit->St->Prop} {σ:St} (I:Nat->St->Prop) (n:Nat) (τ:St) (h0:I n τ) (hs:subS τ σ/\Fj τ=true) (h:∀ m τ,m<=n->I m τ->awp nt x (thenS (λσ'=>∃ m' τ',m'<m/\I m' τ'/\subS τ' σ'/\Fj τ'=true) Q) τ):awp nt (.loop x) Q σ:=
 Vg (λm τ=>m<=n/\I m τ) n τ ⟨Wn n,h0⟩ hs λm τ ⟨hm,hI⟩=>by
  have h1:=h m τ hm hI
  have e:(λσ'=>∃ m' τ',m'<m/\I m' τ'/\subS τ' σ'/\Fj τ'=true)=(λσ'=>∃ m' τ',m'<m/\(m'<=n/\I m' τ')/\subS τ' σ'/\Fj τ'=true):=by
   funext σ';refine propext ⟨λ⟨m',τ',k1,k2,k3⟩=>⟨m',τ',k1,⟨by omega,k2⟩,k3⟩,λ⟨m',τ',k1,k2,k3⟩=>⟨m',τ',k1,k2.2,k3⟩⟩
  rw [<- e];exact h1
theorem Bz {I:Nat->St->Prop} {m:Nat} {σ':St} (m':Nat) (τ':St) (h:I m' τ') (hs:subS τ' σ'/\Fj τ'=true) (hm:m'<m):∃ m' τ',m'<m/\I m' τ'/\subS τ' σ'/\Fj τ'=true:=⟨m',τ',hm,h,hs⟩
def gdx (σ:St) (ops:List Oper) (k:Nat):Bool:=match ops[k]? with
 | some o=>match o.dst with
  | some d=>match look σ d with
   | some (.v .vd)=>true
   | _=>false
  | none=>false
 | none=>false
theorem RK.gx {pre:Option (List Nat)} {nt k d ty:Nat} {ops l:List Oper} {σ:St} {K:St->Prop} {op:Op} {ps:String} {af:Array Edge} {want:Bool} (h:gdx σ ops k=true) (hn:(Nat.blt d nt&&free σ d)=true) (hk:RK pre nt ops l ((d,.v .vd)::σ) K):RK pre nt ops (⟨some d,op,ty,ps,af,some (k,want)⟩::l) σ K:=by
 simp only [Bool.and_eq_true] at hn;refine .step (Stq.of (.pu rfl (.inr ⟨?_,rfl⟩) hn.2 (F5 hn.1)) (by cases pre<;>rfl)) hk;show gd σ ops (some (k,want))=some false;unfold gdx at h;unfold gd;split at h
 ·rename_i o ho
  try simp only [ho]
  split at h
  ·rename_i d' hd
   try simp only [hd]
   split at h
   ·rename_i hl;simp only [hl]
   ·cases h
  ·cases h
 ·cases h

end
section
theorem stp {P Q:Prop} (q:Q) (h:Q->P:=by
 first
 | with_reducible exact spn
 | with_reducible exact spt
 | with_reducible exact spf
 | with_reducible exact spc
 | with_reducible exact spe
 | with_reducible exact λ(q:_/\_)=>spd q.1 q.2
 | with_reducible exact λ(q:_/\_)=>spq q.1 q.2
 | with_reducible exact λ(q:_/\_)=>spm q.1 q.2
 | with_reducible exact λ(q:_/\_)=>spi q.1 q.2
 | with_reducible exact sps
 | with_reducible exact spa (by assumption)
 | with_reducible exact spb
 | exact Go.go
 | exact Si rfl):P:=h q
theorem rks {P Q:Prop} (q:Q) (h:Q->P:=by
 first
 | exact RK.gg rfl rfl
 | exact RK.gx rfl rfl
 | exact RK.pk rfl rfl rfl
 | exact RK.bk rfl rfl
 | exact RK.nil
 | exact RK.bk' rfl rfl (by (try simp only [Mp,true_and,and_true,IN,It,IS,OF,List.length_set,IT,No,bsz] at *);omega)):P:=h q

end
end Go.Proofs.YtlgojeodceiglaaGreatDoor.PFnExactExecute
