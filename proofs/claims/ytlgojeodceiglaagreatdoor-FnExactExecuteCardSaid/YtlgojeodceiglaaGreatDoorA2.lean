/- Execute: The program's and the reference's functions as plain Lean functions, and contracts of the small ones. -/
import Derived.Test.YtlgojeodceiglaaGreatDoorA1
import Derived.Laws.Externs
import Derived.Lib.Hide
import Derived.Lib.Bytealg
namespace Go.Proofs.YtlgojeodceiglaaGreatDoor.PFnExactExecute
open Go.RowKit Go.Proofs.YtlgojeodceiglaaGreatDoorW.PrintWords Go.Proofs.YtlgojeodceiglaaGreatDoorW.PrintLast Go.Proofs.YtlgojeodceiglaaGreatDoorW.PrintMore
attribute [local go_sem] WO WQ WS WT WM WN WP WR
set_option linter.unusedVariables false
set_option linter.unusedSimpArgs false
set_option maxRecDepth 100000
set_option maxHeartbeats 0
section
def CR.f (s sep:ByteArray):Option (List ByteArray):=if sep.size=1/\s.size<=4194304 then some (Lib.splitB sep 0 (Lib.countB s sep) s) else none
def BE.f (s:ByteArray):ByteArray×ByteArray×Bool:=if 0<=Lib.indexByte s.data.toList 32 then (s.extract 0 (Lib.indexByte s.data.toList 32).toNat,s.extract ((Lib.indexByte s.data.toList 32).toNat+1) s.size,true) else (s,⟨#[]⟩,false)
def CZ.f (a0:ByteArray) (a1:Bool):Option (ByteArray):=if a1=true then (some a0) else (some (⟨#[110,111]⟩:ByteArray))
def Cr.f (a0:ByteArray) (a1:Int):Option Int:=some (Lib.indexByte a0.data.toList a1.toNat.toUInt8)
def C5.f (a0:ByteArray) (a1:Int):Option (Int):=(Cr.f a0 a1).bind λt101=>(some t101)
def Br.f (a0:Int):Option (Int):=(C5.f (⟨#[101,110,119,115]⟩:ByteArray) a0).bind λt102=>(some t102)
def CK.f (a0:ByteArray) (a1:ByteArray):Option (Bool):=if (a0.size:Int)>=(a1.size:Int) then (if 0<=(a1.size:Int) then (if (a1.size:Int)<=(a0.size:Int) then (some ((a0.extract 0 ((a1.size:Int):Int).toNat).toList==a1.toList)) else (none)) else (none)) else (some false)
def Dj.f (a0:ByteArray) (a1:ByteArray):Option (ByteArray×Bool):=(CK.f a0 a1).bind λt103=>(if t103=true then (if 0<=(a1.size:Int) then (if (a1.size:Int)<=(a0.size:Int) then (some (a0.extract ((a1.size:Int):Int).toNat a0.size,true)) else (none)) else (none)) else (some (a0,false)))
def CQ.f (a0:ByteArray) (a1:ByteArray):Option (ByteArray×Bool):=(Dj.f a0 a1).bind λbt104=>(some (bt104.1,bt104.2))
def Ab.way (c:Int):Int:=if c=101 then 0 else if c=110 then 1 else if c=119 then 2 else if c=115 then 3 else -1
def Ab.cut (c:Int) (l:ByteArray):ByteArray×Bool:=if 0<l.size/\bt l 0=c then (l.extract 1 l.size,true) else (l,false)
def Ab.g:Nat->ByteArray->Int×List S96×ByteArray×Bool
 | 0,s=>(0,[],s,false)
 | k+1,s=>
  if s.size=0 then (0,[],s,false)
  else if bt s 0=101\/bt s 0=110\/bt s 0=119\/bt s 0=115 then (bt s 0,[],s.extract 1 s.size,true)
  else if bt s 0=45\/bt s 0=64\/(50<=bt s 0/\bt s 0<=57) then
   (bt s 0,[⟨(Ab.g k (s.extract 1 s.size)).1,(Ab.g k (s.extract 1 s.size)).2.1⟩],(Ab.g k (s.extract 1 s.size)).2.2.1,(Ab.g k (s.extract 1 s.size)).2.2.2)
  else if bt s 0≠40 then (bt s 0,[],s.extract 1 s.size,false)
  else if (Ab.g k (s.extract 1 s.size)).2.2.2=false\/(Ab.cut 43 (Ab.g k (s.extract 1 s.size)).2.2.1).2=false then (bt s 0,[],s.extract 1 s.size,false)
  else
   (bt s 0,[⟨(Ab.g k (s.extract 1 s.size)).1,(Ab.g k (s.extract 1 s.size)).2.1⟩,⟨(Ab.g k (Ab.cut 43 (Ab.g k (s.extract 1 s.size)).2.2.1).1).1,(Ab.g k (Ab.cut 43 (Ab.g k (s.extract 1 s.size)).2.2.1).1).2.1⟩],
    (Ab.cut 41 (Ab.g k (Ab.cut 43 (Ab.g k (s.extract 1 s.size)).2.2.1).1).2.2.1).1,
    (Ab.g k (Ab.cut 43 (Ab.g k (s.extract 1 s.size)).2.2.1).1).2.2.2&&(Ab.cut 41 (Ab.g k (Ab.cut 43 (Ab.g k (s.extract 1 s.size)).2.2.1).1).2.2.1).2)
def Ab.f (a0:ByteArray):Option (Int×List S96×ByteArray×Bool):=
 if a0.size<=60 then some (Ab.g (a0.size+1) a0) else none
def Dk.f (a0:ByteArray):Option (Int×(List (S96))×Bool):=if (a0.size:Int)>60 then (some (0,([]:List (S96)),false)) else ((Ab.f a0).bind λbt107=>(if bt107.2.2.2=true then (some (bt107.1,bt107.2.1,decide (bt107.2.2.1.toList=ByteArray.toList ⟨#[]⟩))) else (some (bt107.1,bt107.2.1,false))))
mutual
def Bk.j0:Nat->Bool->Int->List (S96)->Option (Int)
 | 0,_,_,_=>none
 | k+1,x25,x115000,x115001=>if x25=true then (if 0<(x115001.length:Int) then ((Bk.f k ((CH x115001 0).f0) ((CH x115001 0).f1)).bind λt120=>(some (mn 201 (wrap64 (((x115000-48) % 256)*t120))))) else (none)) else (if 0<(x115001.length:Int) then ((Bk.f k ((CH x115001 0).f0) ((CH x115001 0).f1)).bind λt122=>(some t122)) else (none))
def Bk.f:Nat->Int->List (S96)->Option (Int)
 | 0,_,_=>none
 | k+1,a0_0,l0_1=>if (l0_1.length:Int)=0 then (some 1) else (if (l0_1.length:Int)=2 then (if 0<(l0_1.length:Int) then ((Bk.f k ((CH l0_1 0).f0) ((CH l0_1 0).f1)).bind λt116=>(if 1<(l0_1.length:Int) then ((Bk.f k ((CH l0_1 1).f0) ((CH l0_1 1).f1)).bind λt118=>(some (mn 201 (wrap64 (t116+t118))))) else (none))) else (none)) else (if a0_0>=50 then (Bk.j0 k (decide (a0_0<=57)) a0_0 l0_1) else (Bk.j0 k false a0_0 l0_1)))
end
def Dd.f (k:Nat) (a0:ByteArray):Option (Int×(List (S96))×Bool):=(Dk.f a0).bind λbt124=>(if bt124.2.2=true then ((Bk.f k bt124.1 bt124.2.1).bind λt130=>(some (bt124.1,bt124.2.1,decide (t130<=200)))) else (some (bt124.1,bt124.2.1,false)))
def strings_Repeat.f (a0:ByteArray) (a1:Int):Option ByteArray:=if 0<=a1/\a1<=100/\a0.size<=1048576 then some ⟨(Lib.repeatL a0.data.toList a1.toNat).toArray⟩ else none
mutual
def AH.j0:Nat->ByteArray->Bool->Int->List (S96)->Option (ByteArray)
 | 0,_,_,_,_=>none
 | k+1,x3,x43,x132000,x132001=>if x43=true then ((strings_Repeat.f x3 ((x132000-48) % 256)).bind λt141=>(some t141)) else (if 0<=(x3.size:Int) then (if ((x3.size:Int):Int).toNat<=281474976710656 then (AH.l0 k x3 (List.replicate ((x3.size:Int):Int).toNat 0) (x3.size:Int) 0 x132000 x132001) else (none)) else (none))
def AH.l0:Nat->ByteArray->List Int->Int->Int->Int->List (S96)->Option (ByteArray)
 | 0,_,_,_,_,_,_=>none
 | k+1,x3,x4,x54,x55,x132000,x132001=>if x55<x54 then (if x132000=64 then (if 0<=x55 then (if x55<(x3.size:Int) then ((Br.f (bt x3 x55)).bind λt145=>(if 0<=(Int.tmod (wrap64 (t145+1)) 4) then (if (Int.tmod (wrap64 (t145+1)) 4)<4 then (if x55<(x4.length:Int) then (AH.l0 k x3 (x4.set (x55:Int).toNat (bt (⟨#[101,110,119,115]⟩:ByteArray) (Int.tmod (wrap64 (t145+1)) 4))) x54 (wrap64 (x55+1)) x132000 x132001) else (none)) else (none)) else (none))) else (none)) else (none)) else (if 0<=x55 then (if x55<(x3.size:Int) then ((Br.f (bt x3 x55)).bind λt147=>(if 0<=(Int.tmod (wrap64 (t147+2)) 4) then (if (Int.tmod (wrap64 (t147+2)) 4)<4 then (if 0<=(wrap64 ((wrap64 ((x3.size:Int)-1))-x55)) then (if (wrap64 ((wrap64 ((x3.size:Int)-1))-x55))<(x4.length:Int) then (AH.l0 k x3 (x4.set ((wrap64 ((wrap64 ((x3.size:Int)-1))-x55)):Int).toNat (bt (⟨#[101,110,119,115]⟩:ByteArray) (Int.tmod (wrap64 (t147+2)) 4))) x54 (wrap64 (x55+1)) x132000 x132001) else (none)) else (none)) else (none)) else (none))) else (none)) else (none))) else (some (strOfNums x4))
def AH.f:Nat->Int->List (S96)->Option (ByteArray)
 | 0,_,_=>none
 | k+1,a0_0,l0_1=>if (l0_1.length:Int)=0 then (some (strOfNums (([a0_0]:List Int)))) else (if (l0_1.length:Int)=2 then (if 0<(l0_1.length:Int) then ((AH.f k ((CH l0_1 0).f0) ((CH l0_1 0).f1)).bind λt136=>(if 1<(l0_1.length:Int) then ((AH.f k ((CH l0_1 1).f0) ((CH l0_1 1).f1)).bind λt138=>(if t136.size+t138.size<=9223372036854775807 then (some (t136++t138)) else (none))) else (none))) else (none)) else (if 0<(l0_1.length:Int) then ((AH.f k ((CH l0_1 0).f0) ((CH l0_1 0).f1)).bind λt140=>(if a0_0>=50 then (AH.j0 k t140 (decide (a0_0<=57)) a0_0 l0_1) else (AH.j0 k t140 false a0_0 l0_1))) else (none)))
end
def CD.f (k:Nat) (a0:ByteArray):Option (ByteArray×Bool):=(Dd.f k a0).bind λbt149=>(if bt149.2.2=true then ((AH.f k bt149.1 bt149.2.1).bind λt155=>(some (t155,true))) else (some ((⟨#[]⟩:ByteArray),false)))
def strconv_Itoa.f (a0:Int):Option ByteArray:=if -9223372036854775808<=a0/\a0<=9223372036854775807 then some ⟨(Lib.itoa a0).toArray⟩ else none
def strings_Join.f (xs:List ByteArray) (sep:ByteArray):Option ByteArray:=if xs.length<=1000/\(Lib.join (xs.map (·.data.toList)) sep.data.toList).length<=1048576 then some ⟨(Lib.join (xs.map (·.data.toList)) sep.data.toList).toArray⟩ else none
def Bb.l0:Nat->ByteArray->List ByteArray->List Int->Int->Int->Option (ByteArray)
 | 0,_,_,_,_,_=>none
 | k+1,x1,x5,x9,x10,x11=>if x11<x10 then (if 0<=x11 then (if x11<(x9.length:Int) then ((strconv_Itoa.f (rd x9 x11)).bind λt160=>(if x5.length<8796093022208 then (Bb.l0 k x1 (x5++[t160]) x9 x10 (wrap64 (x11+1))) else (none))) else (none)) else (none)) else ((strings_Join.f x5 x1).bind λt164=>(some t164))
def Bb.f (k:Nat) (l0:List Int) (a1:ByteArray):Option (ByteArray):=Bb.l0 k a1 (([]:List ByteArray)) l0 (l0.length:Int) 0
def C8.f (k:Nat) (l0:List Int) (a1:Bool):Option (ByteArray):=if a1=true then (if (l0.length:Int)=0 then (some (⟨#[46]⟩:ByteArray)) else ((Bb.f k l0 (⟨#[32]⟩:ByteArray)).bind λt165=>(some t165))) else (some (⟨#[110,111]⟩:ByteArray))
def Fk.f (k:Nat) (a0:Int) (a1:Int) (a2:Bool):Option (ByteArray):=(C8.f k (([a0,a1]:List Int)) a2).bind λt169=>(some t169)
def BZ.f:Nat->Int->List S96->Option (Int×Int×Int)
 | 0,_,_=>none
 | k+1,a,l=>if (l.length:Int)=0 then ((Br.f a).bind λt=>(if 0<=t then (if t<4 then some (rd [1,0,-1,0] t,rd [0,1,0,-1] t,0) else none) else none)) else
  (if 0<(l.length:Int) then ((BZ.f k (CH l 0).f0 (CH l 0).f1).bind λx=>(if a=64 then some (wrap64 (-x.2.1),x.1,x.2.2) else (if a=45 then some (wrap64 (-x.1),wrap64 (-x.2.1),wrap64 (-x.2.2)) else
   (if a=40 then (if 1<(l.length:Int) then ((BZ.f k (CH l 1).f0 (CH l 1).f1).bind λz=>some (wrap64 (x.1+z.1),wrap64 (x.2.1+z.2.1),wrap64 (wrap64 (wrap64 (x.2.2+z.2.2)+wrap64 (x.1*z.2.1))-wrap64 (x.2.1*z.1)))) else none)
   else some (wrap64 (((a-48) % 256)*x.1),wrap64 (((a-48) % 256)*x.2.1),wrap64 (((a-48) % 256)*x.2.2)))))) else none)
def DV.f (k:Nat) (a0:ByteArray):Option (Int×Int×Bool):=(Dd.f k a0).bind λbt170=>(if bt170.2.2=true then ((BZ.f k bt170.1 bt170.2.1).bind λbt176=>(some (bt176.1,bt176.2.1,true))) else (some (0,0,false)))
def Cz.f (k:Nat) (a0:Int) (a1:Bool):Option (ByteArray):=(C8.f k (([a0]:List Int)) a1).bind λt182=>(some t182)
def DE.f (k:Nat) (a0:ByteArray):Option (Int×Bool):=(Dd.f k a0).bind λbt183=>(if bt183.2.2=true then ((BZ.f k bt183.1 bt183.2.1).bind λbt189=>(some (bt189.2.2,true))) else (some (0,false)))
def Cm.f:Nat->Int->List (S96)->Bool->Int->Option (ByteArray)
 | 0,_,_,_,_=>none
 | k+1,a0_0,l0_1,a1,a2=>if (l0_1.length:Int)=0 then ((Br.f a0_0).bind λt193=>(if a1=true then (if 0<=(Int.tmod (wrap64 ((wrap64 (t193+a2))+2)) 4) then (if (Int.tmod (wrap64 ((wrap64 (t193+a2))+2)) 4)<=(wrap64 ((Int.tmod (wrap64 ((wrap64 (t193+a2))+2)) 4)+1)) then (if (wrap64 ((Int.tmod (wrap64 ((wrap64 (t193+a2))+2)) 4)+1))<=4 then (some ((⟨#[101,110,119,115]⟩:ByteArray).extract ((Int.tmod (wrap64 ((wrap64 (t193+a2))+2)) 4):Int).toNat ((wrap64 ((Int.tmod (wrap64 ((wrap64 (t193+a2))+2)) 4)+1)):Int).toNat)) else (none)) else (none)) else (none)) else (if 0<=(Int.tmod (wrap64 (t193+a2)) 4) then (if (Int.tmod (wrap64 (t193+a2)) 4)<=(wrap64 ((Int.tmod (wrap64 (t193+a2)) 4)+1)) then (if (wrap64 ((Int.tmod (wrap64 (t193+a2)) 4)+1))<=4 then (some ((⟨#[101,110,119,115]⟩:ByteArray).extract ((Int.tmod (wrap64 (t193+a2)) 4):Int).toNat ((wrap64 ((Int.tmod (wrap64 (t193+a2)) 4)+1)):Int).toNat)) else (none)) else (none)) else (none)))) else (if a0_0=45 then (if 0<(l0_1.length:Int) then ((Cm.f k ((CH l0_1 0).f0) ((CH l0_1 0).f1) (!a1) a2).bind λt195=>(some t195)) else (none)) else (if a0_0=64 then (if 0<(l0_1.length:Int) then ((Cm.f k ((CH l0_1 0).f0) ((CH l0_1 0).f1) a1 (Int.tmod (wrap64 (a2+1)) 4)).bind λt197=>(some t197)) else (none)) else (if a0_0=40 then (if 0<(l0_1.length:Int) then ((Cm.f k ((CH l0_1 0).f0) ((CH l0_1 0).f1) a1 a2).bind λt204=>(if 1<(l0_1.length:Int) then ((Cm.f k ((CH l0_1 1).f0) ((CH l0_1 1).f1) a1 a2).bind λt206=>(if a1=true then (if 1+t206.size<=9223372036854775807 then (if ((⟨#[40]⟩:ByteArray)++t206).size+1<=9223372036854775807 then (if (((⟨#[40]⟩:ByteArray)++t206)++(⟨#[43]⟩:ByteArray)).size+t204.size<=9223372036854775807 then (if ((((⟨#[40]⟩:ByteArray)++t206)++(⟨#[43]⟩:ByteArray))++t204).size+1<=9223372036854775807 then (some (((((⟨#[40]⟩:ByteArray)++t206)++(⟨#[43]⟩:ByteArray))++t204)++(⟨#[41]⟩:ByteArray))) else (none)) else (none)) else (none)) else (none)) else (if 1+t204.size<=9223372036854775807 then (if ((⟨#[40]⟩:ByteArray)++t204).size+1<=9223372036854775807 then (if (((⟨#[40]⟩:ByteArray)++t204)++(⟨#[43]⟩:ByteArray)).size+t206.size<=9223372036854775807 then (if ((((⟨#[40]⟩:ByteArray)++t204)++(⟨#[43]⟩:ByteArray))++t206).size+1<=9223372036854775807 then (some (((((⟨#[40]⟩:ByteArray)++t204)++(⟨#[43]⟩:ByteArray))++t206)++(⟨#[41]⟩:ByteArray))) else (none)) else (none)) else (none)) else (none)))) else (none))) else (none)) else ((some (([a0_0]:List Int):List Int)).bind λy198=>(if 0<(l0_1.length:Int) then ((Cm.f k ((CH l0_1 0).f0) ((CH l0_1 0).f1) a1 a2).bind λt202=>(if (strOfNums y198).size+t202.size<=9223372036854775807 then (some ((strOfNums y198)++t202)) else (none))) else (none))))))
def DF.f (k:Nat) (a0:ByteArray):Option (ByteArray×Bool):=(Dk.f a0).bind λbt207=>(if bt207.2.2=true then ((Cm.f k bt207.1 bt207.2.1 false 0).bind λt213=>(some (t213,true))) else (some ((⟨#[]⟩:ByteArray),false)))
def Bi.l0:Nat->ByteArray->Int->Int->Int->Int->Int->Option (Int×Int×Int×Bool)
 | 0,_,_,_,_,_,_=>none
 | k+1,s,n0,n1,n2,n3,i=>if i<(s.size:Int) then (if 0<=i then (if 0<=wrap64 (i-1) then (if wrap64 (i-1)<(s.size:Int) then ((Br.f (bt s i)).bind λx=>((Br.f (bt s (wrap64 (i-1)))).bind λy=>
   if Int.tmod (wrap64 (wrap64 (x-y)+4)) 4=0 then Bi.l0 k s (wrap64 (n0+1)) n1 n2 n3 (wrap64 (i+1)) else
   if Int.tmod (wrap64 (wrap64 (x-y)+4)) 4=1 then Bi.l0 k s n0 (wrap64 (n1+1)) n2 n3 (wrap64 (i+1)) else
   if Int.tmod (wrap64 (wrap64 (x-y)+4)) 4=2 then Bi.l0 k s n0 n1 (wrap64 (n2+1)) n3 (wrap64 (i+1)) else
   if Int.tmod (wrap64 (wrap64 (x-y)+4)) 4=3 then Bi.l0 k s n0 n1 n2 (wrap64 (n3+1)) (wrap64 (i+1)) else none)) else none) else none) else none) else some (n1,n3,n2,true)
def Bi.f (k:Nat) (s:ByteArray):Option (Int×Int×Int×Bool):=(CD.f k s).bind λt=>if t.2=true then Bi.l0 k t.1 0 0 0 0 1 else some (0,0,0,false)
mutual
def Al.l0:Nat->List Int->List ByteArray->Int->Int->Option (List Int×Bool)
 | 0,_,_,_,_=>none
 | k+1,x4,x11,x12,x13=>if x13<x12 then (if 0<=x13 then (if x13<(x11.length:Int) then (if ((rdOf ByteArray.empty x11 x13).size:Int)<1 then (Al.j1 k x4 (rdOf ByteArray.empty x11 x13) x11 x12 x13 true) else (Al.j1 k x4 (rdOf ByteArray.empty x11 x13) x11 x12 x13 (decide (((rdOf ByteArray.empty x11 x13).size:Int)>3)))) else (none)) else (none)) else (some (x4,true))
def Al.j1:Nat->List Int->ByteArray->List ByteArray->Int->Int->Bool->Option (List Int×Bool)
 | 0,_,_,_,_,_,_=>none
 | k+1,x4,x6,x11,x12,x13,x24=>if x24=true then (some (([]:List Int),false)) else (Al.l1 k x4 x6 0 x11 x12 x13 (x6.size:Int) 0)
def Al.l1:Nat->List Int->ByteArray->Int->List ByteArray->Int->Int->Int->Int->Option (List Int×Bool)
 | 0,_,_,_,_,_,_,_,_=>none
 | k+1,x4,x6,x7,x11,x12,x13,x26,x27=>if x27<x26 then (if 0<=x27 then (if x27<(x6.size:Int) then (if (bt x6 x27)<48 then (some (([]:List Int),false)) else (if (bt x6 x27)>57 then (some (([]:List Int),false)) else (Al.l1 k x4 x6 (wrap64 ((wrap64 (x7*10))+(((bt x6 x27)-48) % 256))) x11 x12 x13 x26 (wrap64 (x27+1))))) else (none)) else (none)) else (if x4.length<17592186044416 then (Al.l0 k (x4++[x7]) x11 x12 (wrap64 (x13+1))) else (none))
end
def Al.f (k:Nat) (a0:ByteArray):Option (List Int×Bool):=(CR.f a0 (⟨#[32]⟩:ByteArray)).bind λt217=>(Al.l0 k (([]:List Int)) t217 (t217.length:Int) 0)
def Am.l0:Nat->List Int->List Int->Int->Int->Option (Bool)
 | 0,_,_,_,_=>none
 | k+1,x0,x5,x6,x7=>if x7<x6 then (if 0<=x7 then (if x7<(x5.length:Int) then (if (rd x5 x7)<1 then (some false) else (if (rd x5 x7)>60 then (some false) else (Am.l0 k x0 x5 x6 (wrap64 (x7+1))))) else (none)) else (none)) else (if (x0.length:Int)>=1 then (some (decide ((x0.length:Int)<=9))) else (some false))
def Am.f (k:Nat) (l0:List Int):Option (Bool):=Am.l0 k l0 l0 (l0.length:Int) 0
def Aj.f (_k:Nat) (l:List Int):Option (List Int):=if 0<l.length then (if l.length<1000 then some ([]++l) else none) else none
def Da.l0:Nat->List ByteArray->List (List Int)->Int->Int->Option (ByteArray)
 | 0,_,_,_,_=>none
 | k+1,x5,x14,x15,x16=>if x16<x15 then (if 0<=x16 then (if x16<(x14.length:Int) then ((Bb.f k (EU x14 x16) (⟨#[44]⟩:ByteArray)).bind λt229=>(if x5.length<8796093022208 then (Da.l0 k (x5++[t229]) x14 x15 (wrap64 (x16+1))) else (none))) else (none)) else (none)) else ((strings_Join.f x5 (⟨#[32]⟩:ByteArray)).bind λt233=>(some t233))
def Da.f (k:Nat) (l0:List (List Int)) (a1:Bool):Option (ByteArray):=if a1=true then (if (l0.length:Int)=0 then (some (⟨#[46]⟩:ByteArray)) else (Da.l0 k (([]:List ByteArray)) l0 (l0.length:Int) 0)) else (some (⟨#[110,111]⟩:ByteArray))
mutual
def AB.j0:Nat->Int->Bool->Option ((List (List Int))×Bool)
 | 0,_,_=>none
 | k+1,x0,x13=>if x13=true then (some (([]:List (List Int)),false)) else (AB.l0 k x0 (([]:List (List Int))) 1)
def AB.l0:Nat->Int->List (List Int)->Int->Option ((List (List Int))×Bool)
 | 0,_,_,_=>none
 | k+1,x0,x4,x5=>if (wrap64 (3*x5))<=x0 then (AB.l1 k x0 x4 x5 x5) else (some (x4,true))
def AB.l1:Nat->Int->List (List Int)->Int->Int->Option ((List (List Int))×Bool)
 | 0,_,_,_,_=>none
 | k+1,x0,x4,x5,x6=>if (wrap64 (x5+(wrap64 (2*x6))))<=x0 then (if (wrap64 ((wrap64 (x0-x5))-x6))<(wrap64 (x5+x6)) then (if x4.length<5864062014805 then (AB.l1 k x0 (x4++[(([x5,x6,wrap64 ((wrap64 (x0-x5))-x6)]:List Int))]) x5 (wrap64 (x6+1))) else (none)) else (AB.l1 k x0 x4 x5 (wrap64 (x6+1)))) else (AB.l0 k x0 x4 (wrap64 (x5+1)))
end
def AB.f (k:Nat) (a0:Int):Option ((List (List Int))×Bool):=if a0<1 then (AB.j0 k a0 true) else (AB.j0 k a0 (decide (a0>60)))
def CE.j0:Nat->Int->Bool->Option (Int×Bool)
 | 0,_,_=>none
 | k+1,x0,x9=>if x9=true then (some (0,false)) else (if (Int.tmod x0 2)=0 then (some (wrap64 (Int.tdiv (wrap64 ((wrap64 (x0*x0))+24)) 48),true)) else (some (wrap64 (Int.tdiv (wrap64 ((wrap64 ((wrap64 (x0+3))*(wrap64 (x0+3))))+24)) 48),true)))
def CE.f (k:Nat) (a0:Int):Option (Int×Bool):=if a0<1 then (CE.j0 k a0 true) else (CE.j0 k a0 (decide (a0>60)))
def BJ.f (a0:Int):Option (Bool):=some (a0 != a0)
def CL.f (a0:Int) (a1:Int):Option (Bool):=(BJ.f a0).bind λt243=>(if t243=true then ((BJ.f a1).bind λt244=>(if t244=true then (some (decide (a0<a1))) else (some true))) else (some (decide (a0<a1))))
def Af.l0:Nat->List Int->Int->Option (Bool)
 | 0,_,_=>none
 | k+1,x0,x3=>if x3>0 then (if 0<=x3 then (if x3<(x0.length:Int) then (if 0<=(wrap64 (x3-1)) then (if (wrap64 (x3-1))<(x0.length:Int) then ((CL.f (rd x0 x3) (rd x0 (wrap64 (x3-1)))).bind λt247=>(if t247=true then (some false) else (Af.l0 k x0 (wrap64 (x3-1))))) else (none)) else (none)) else (none)) else (none)) else (some true)
def Af.f (k:Nat) (l0:List Int):Option (Bool):=Af.l0 k l0 (wrap64 ((l0.length:Int)-1))
def AA.f (k:Nat) (l0:List Int):Option (Bool):=(Am.f k l0).bind λt248=>(if t248=true then ((Af.f k l0).bind λt249=>(some t249)) else (some false))
def BT.f (k:Nat) (l0:List Int):Option (Bool):=if (l0.length:Int)=3 then ((AA.f k l0).bind λt250=>(if t250=true then (if 2<(l0.length:Int) then (if 0<(l0.length:Int) then (if 1<(l0.length:Int) then (some (decide ((rd l0 2)<(wrap64 ((rd l0 0)+(rd l0 1)))))) else (none)) else (none)) else (none)) else (some false))) else (some false)
def CY.f (k:Nat) (l0:List Int):Option (Int×Bool):=(BT.f k l0).bind λt254=>(if t254=true then (if 0<(l0.length:Int) then (if 1<(l0.length:Int) then (if 2<(l0.length:Int) then (some (wrap64 ((wrap64 ((wrap64 ((wrap64 ((wrap64 ((rd l0 0)+(rd l0 1)))+(rd l0 2)))*(wrap64 ((wrap64 ((rd l0 0)+(rd l0 1)))-(rd l0 2)))))*(wrap64 ((wrap64 ((rd l0 0)+(rd l0 2)))-(rd l0 1)))))*(wrap64 ((wrap64 ((rd l0 1)+(rd l0 2)))-(rd l0 0)))),true)) else (none)) else (none)) else (none)) else (some (0,false)))
mutual
def AJ.l0:Nat->List (List Int)->List (List Int)->Int->Int->Option (List (List Int)×Bool)
 | 0,_,_,_,_=>none
 | k+1,x6,x20,x21,x22=>if x22<x21 then (if 0<=x22 then (if x22<(x20.length:Int) then ((CY.f k (EU x20 x22)).bind λt=>AJ.l1 k x6 x20 x21 x22 (EU x20 x22) t.1 1) else none) else none) else some (x6,true)
def AJ.l1:Nat->List (List Int)->List (List Int)->Int->Int->List Int->Int->Int->Option (List (List Int)×Bool)
 | 0,_,_,_,_,_,_,_=>none
 | k+1,x6,x20,x21,x22,x8,x9,x11=>if wrap64 (wrap64 (16*x11)*x11)<=x9 then (if wrap64 (wrap64 (16*x11)*x11)=x9 then (if x6.length<5864062014805 then AJ.l1 k (x6++[x8]) x20 x21 x22 x8 x9 (wrap64 (x11+1)) else none) else AJ.l1 k x6 x20 x21 x22 x8 x9 (wrap64 (x11+1))) else AJ.l0 k x6 x20 x21 (wrap64 (x22+1))
end
def AJ.f (k:Nat) (a0:Int):Option (List (List Int)×Bool):=(AB.f k a0).bind λt=>if t.2=true then AJ.l0 k [] t.1 (t.1.length:Int) 0 else some ([],false)
def B8.l0:Nat->Int->List Int->Int->Int->Option (Int)
 | 0,_,_,_,_=>none
 | k+1,x3,x6,x7,x8=>if x8<x7 then (if 0<=x8 then (if x8<(x6.length:Int) then (B8.l0 k (wrap64 (x3+(rd x6 x8))) x6 x7 (wrap64 (x8+1))) else (none)) else (none)) else (some x3)
def B8.f (k:Nat) (l0:List Int):Option (Int):=B8.l0 k 0 l0 (l0.length:Int) 0
def DU.f (k:Nat) (l0:List Int):Option (Int):=(B8.f k l0).bind λt269=>(if 0<=(wrap64 ((l0.length:Int)-1)) then (if (wrap64 ((l0.length:Int)-1))<(l0.length:Int) then (some (wrap64 (t269-(wrap64 (2*(rd l0 (wrap64 ((l0.length:Int)-1)))))))) else (none)) else (none))
def CI.f (k:Nat) (l0:List Int):Option (Bool):=if (l0.length:Int)>=3 then ((DU.f k l0).bind λt271=>(some (decide (t271>0)))) else (some false)
def AL.t (n:Int):Nat->Nat->List Int->Int->Int->Int->Option Int
 | 0,_,_,_,_,_=>none
 | k+1,0,l,q,_,m=>if wrap64 (n-(l.length:Int))=1 then (if q<(if 0<l.length then rd l (wrap64 ((l.length:Int)-1)) else 1) then some m else ((if 0<l.length then Aj.f k l else some []).bind λc=>(CI.f k (c++[q])).bind λb=>some (if b=true then wrap64 (m+1) else m))) else AL.t n k 1 l q (if 0<l.length then rd l (wrap64 ((l.length:Int)-1)) else 1) m
 | k+1,_+1,l,q,x,m=>if wrap64 (x*wrap64 (n-(l.length:Int)))<=q then ((if 0<l.length then Aj.f k l else some []).bind λc=>(AL.t n k 0 (c++[x]) (wrap64 (q-x)) 0 m).bind λm'=>AL.t n k 1 l q (wrap64 (x+1)) m') else some m
def AL.f (k:Nat) (n p:Int):Option (Int×Bool):=if n<3\/n>6\/p<1\/p>30 then some (0,false) else (AL.t n k 0 [] p 0 0).bind λm=>some (m,true)
def Cj.f (k:Nat) (l0:List Int):Option (Int×Int×Bool):=(AA.f k l0).bind λt272=>(if t272=true then ((DU.f k l0).bind λt273=>((B8.f k l0).bind λt274=>(some (mx 0 (wrap64 (-t273)),t274,true)))) else (some (0,0,false)))
def EB.f (k:Nat) (l0:List Int) (a1:Int):Option (Bool):=(Cj.f k l0).bind λbt275=>(if bt275.2.2=true then (if a1>=0 then (if a1>=bt275.1 then (some (decide (a1<=bt275.2.1))) else (some false)) else (some false)) else (some false))
mutual
def Bn.j0:Nat->List Int->Int->Bool->Option (Int×Bool)
 | 0,_,_,_=>none
 | k+1,x0,x1,x17=>if x17=true then (some (0,false)) else (Bn.l0 k x0 x1 (x0.length:Int))
def Bn.l0:Nat->List Int->Int->Int->Option (Int×Bool)
 | 0,_,_,_=>none
 | k+1,x0,x1,x6=>if x6>=1 then (if 0<=x6 then (if x6<=(x0.length:Int) then ((EB.f k (x0.take (x6:Int).toNat) x1).bind λt280=>(if t280=true then (some (x6,true)) else (Bn.l0 k x0 x1 (wrap64 (x6-1))))) else (none)) else (none)) else (some (0,false))
end
def Bn.f (k:Nat) (l0:List Int) (a1:Int):Option (Int×Bool):=(AA.f k l0).bind λt278=>(if t278=true then (if a1<0 then (Bn.j0 k l0 a1 true) else (Bn.j0 k l0 a1 (decide (a1>1000)))) else (Bn.j0 k l0 a1 true))
def CM.l0:Nat->List Int->List Int->Int->Int->Option (Bool)
 | 0,_,_,_,_=>none
 | k+1,x0,x5,x6,x7=>if x7<x6 then (if 0<=x7 then (if x7<(x5.length:Int) then (if (rd x5 x7)<1 then (some false) else (if (rd x5 x7)>12 then (some false) else (CM.l0 k x0 x5 x6 (wrap64 (x7+1))))) else (none)) else (none)) else (some ((x0.length:Int)==6))
def CM.f (k:Nat) (l0:List Int):Option (Bool):=CM.l0 k l0 l0 (l0.length:Int) 0
def Ej.f (l0:List Int):Option (Int):=if 0<(l0.length:Int) then (if 1<(l0.length:Int) then (if 2<(l0.length:Int) then (if 3<(l0.length:Int) then (if 4<(l0.length:Int) then (if 5<(l0.length:Int) then (some (wrap64 ((wrap64 ((wrap64 ((wrap64 ((wrap64 ((wrap64 ((wrap64 (4*(wrap64 ((rd l0 0)*(rd l0 0)))))*(wrap64 ((rd l0 1)*(rd l0 1)))))*(wrap64 ((rd l0 2)*(rd l0 2)))))+(wrap64 ((wrap64 ((wrap64 ((wrap64 ((wrap64 ((rd l0 0)*(rd l0 0)))+(wrap64 ((rd l0 1)*(rd l0 1)))))-(wrap64 ((rd l0 3)*(rd l0 3)))))*(wrap64 ((wrap64 ((wrap64 ((rd l0 0)*(rd l0 0)))+(wrap64 ((rd l0 2)*(rd l0 2)))))-(wrap64 ((rd l0 4)*(rd l0 4)))))))*(wrap64 ((wrap64 ((wrap64 ((rd l0 1)*(rd l0 1)))+(wrap64 ((rd l0 2)*(rd l0 2)))))-(wrap64 ((rd l0 5)*(rd l0 5)))))))))-(wrap64 ((wrap64 ((wrap64 ((rd l0 0)*(rd l0 0)))*(wrap64 ((wrap64 ((wrap64 ((rd l0 1)*(rd l0 1)))+(wrap64 ((rd l0 2)*(rd l0 2)))))-(wrap64 ((rd l0 5)*(rd l0 5)))))))*(wrap64 ((wrap64 ((wrap64 ((rd l0 1)*(rd l0 1)))+(wrap64 ((rd l0 2)*(rd l0 2)))))-(wrap64 ((rd l0 5)*(rd l0 5)))))))))-(wrap64 ((wrap64 ((wrap64 ((rd l0 1)*(rd l0 1)))*(wrap64 ((wrap64 ((wrap64 ((rd l0 0)*(rd l0 0)))+(wrap64 ((rd l0 2)*(rd l0 2)))))-(wrap64 ((rd l0 4)*(rd l0 4)))))))*(wrap64 ((wrap64 ((wrap64 ((rd l0 0)*(rd l0 0)))+(wrap64 ((rd l0 2)*(rd l0 2)))))-(wrap64 ((rd l0 4)*(rd l0 4)))))))))-(wrap64 ((wrap64 ((wrap64 ((rd l0 2)*(rd l0 2)))*(wrap64 ((wrap64 ((wrap64 ((rd l0 0)*(rd l0 0)))+(wrap64 ((rd l0 1)*(rd l0 1)))))-(wrap64 ((rd l0 3)*(rd l0 3)))))))*(wrap64 ((wrap64 ((wrap64 ((rd l0 0)*(rd l0 0)))+(wrap64 ((rd l0 1)*(rd l0 1)))))-(wrap64 ((rd l0 3)*(rd l0 3)))))))))) else (none)) else (none)) else (none)) else (none)) else (none)) else (none)
def DC.f (k:Nat) (l0:List Int):Option (Int×Bool):=(CM.f k l0).bind λt294=>(if t294=true then ((Ej.f l0).bind λt295=>(some (t295,true))) else (some (0,false)))
def Ao.l0:Nat->List Int->Int->Int->Int->Option (Int)
 | 0,_,_,_,_=>none
 | k+1,x0,x1,x7,x8=>if x8<x7 then (if 0<=x8 then (if x8<(x0.length:Int) then (if x1=(rd x0 x8) then (some x8) else (Ao.l0 k x0 x1 x7 (wrap64 (x8+1)))) else (none)) else (none)) else (some (-1))
def Ao.f (k:Nat) (l0:List Int) (a1:Int):Option (Int):=Ao.l0 k l0 a1 (l0.length:Int) 0
def AF.f (k:Nat) (l0:List Int) (a1:Int):Option (Bool):=(Ao.f k l0 a1).bind λt297=>(some (decide (t297>=0)))
def BN.l0:Nat->List Int->List Int->Int->Int->Option (Bool)
 | 0,_,_,_,_=>none
 | k+1,x0,x5,x6,x7=>if x7<x6 then (if 0<=x7 then (if x7<(x5.length:Int) then (if (rd x5 x7)<0 then (some false) else (if (rd x5 x7)>3 then (some false) else (if x7<=(x0.length:Int) then ((AF.f k (x0.take (x7:Int).toNat) (rd x5 x7)).bind λt300=>(if t300=true then (some false) else (BN.l0 k x0 x5 x6 (wrap64 (x7+1))))) else (none)))) else (none)) else (none)) else (some ((x0.length:Int)==4))
def BN.f (k:Nat) (l0:List Int):Option (Bool):=BN.l0 k l0 l0 (l0.length:Int) 0
def Fe.f (a0:Int) (a1:Int):Option (Int):=if a0>a1 then (if a1=0 then (some (wrap64 (a0-1))) else (some (wrap64 (a1+a0)))) else (if a0=0 then (some (wrap64 (a1-1))) else (some (wrap64 (a0+a1))))
mutual
def Db.l0:Nat->List Int->List Int->List Int->Int->Option (List Int)
 | 0,_,_,_,_=>none
 | k+1,x0,x1,x5,x9=>if x9<4 then (Db.l1 k x0 x1 x5 x9 x9 x9 0) else (some x5)
def Db.l1:Nat->List Int->List Int->List Int->Int->Int->Int->Int->Option (List Int)
 | 0,_,_,_,_,_,_,_=>none
 | k+1,x0,x1,x5,x6,x9,x12,x13=>if x13<x12 then ((Fe.f x6 x13).bind λt304=>(if 0<=x6 then (if x6<(x1.length:Int) then (if 0<=x13 then (if x13<(x1.length:Int) then ((Fe.f (rd x1 x6) (rd x1 x13)).bind λt307=>(if 0<=t307 then (if t307<(x0.length:Int) then (if 0<=t304 then (if t304<(x5.length:Int) then (Db.l1 k x0 x1 (x5.set (t304:Int).toNat (rd x0 t307)) x6 x9 x12 (wrap64 (x13+1))) else (none)) else (none)) else (none)) else (none))) else (none)) else (none)) else (none)) else (none))) else (Db.l0 k x0 x1 x5 (wrap64 (x9+1)))
end
def Db.f (k:Nat) (l0:List Int) (l1:List Int):Option (List Int):=if 6<=35184372088832 then (Db.l0 k l0 l1 (List.replicate 6 0) 0) else (none)
def DQ.f (a0:Int) (a1:Int):Option (Int):=(BJ.f a0).bind λt310=>((BJ.f a1).bind λt311=>(if t310=true then (if t311=true then (some 0) else (some (-1))) else (if t311=true then (some 1) else (if a0<a1 then (some (-1)) else (if a0>a1 then (some 1) else (some 0))))))
def Bh.l0:Nat->List Int->List Int->List Int->Int->Int->Option (Int)
 | 0,_,_,_,_,_=>none
 | k+1,x0,x1,x9,x10,x11=>if x11<x10 then (if 0<=x11 then (if x11<(x9.length:Int) then (if x11>=(x1.length:Int) then (some 1) else (if x11<(x1.length:Int) then ((DQ.f (rd x9 x11) (rd x1 x11)).bind λt314=>(if t314=0 then (Bh.l0 k x0 x1 x9 x10 (wrap64 (x11+1))) else (some t314))) else (none))) else (none)) else (none)) else (if (x0.length:Int)<(x1.length:Int) then (some (-1)) else (some 0))
def Bh.f (k:Nat) (l0:List Int) (l1:List Int):Option (Int):=Bh.l0 k l0 l1 l0 (l0.length:Int) 0
def B5.l0:Nat->List Int->List Int->Int->Option (List Int)
 | 0,_,_,_=>none
 | k+1,x0,x3,x8=>if x8<256 then ((some (([wrap64 (Int.tdiv x8 64),Int.tmod (wrap64 (Int.tdiv x8 16)) 4,Int.tmod (wrap64 (Int.tdiv x8 4)) 4,Int.tmod x8 4]:List Int):List Int)).bind λy318=>((BN.f k y318).bind λt321=>(if t321=true then ((Db.f k x0 y318).bind λt322=>((Bh.f k t322 x3).bind λt325=>(if t325<0 then (B5.l0 k x0 t322 (wrap64 (x8+1))) else (B5.l0 k x0 x3 (wrap64 (x8+1)))))) else (B5.l0 k x0 x3 (wrap64 (x8+1)))))) else ((Aj.f k x3).bind λt315=>(some t315))
def B5.f (k:Nat) (l0:List Int):Option (List Int):=B5.l0 k l0 l0 0
def DR.f (k:Nat) (l0:List Int):Option (List Int×Bool):=(CM.f k l0).bind λt326=>(if t326=true then ((B5.f k l0).bind λt327=>(some (t327,true))) else (some (([]:List Int),false)))
def Cy.f (k:Nat) (l:List Int):Option (List Int×Bool):=(Am.f k l).bind λt=>if t=true then ((Aj.f k l).bind λc=>some (c.mergeSort (λx y=>decide (x<=y)),true)) else some ([],false)
def CV.f (k:Nat) (l:List Int):Option (List Int×Bool):=(Am.f k l).bind λt=>if t=true then ((Aj.f k l).bind λc=>some (c.reverse,true)) else some ([],false)
def Ei.f (k:Nat) (l0:List Int):Option (Int×Bool):=(AA.f k l0).bind λt339=>(if t339=true then ((B8.f k l0).bind λt340=>(some (t340,true))) else (some (0,false)))
def Be.lz {S:Type} (step:S->Int->Int->Int->Option S):Nat->List Int->Int->Int->Int->S->Option S
 | 0,_,_,_,_,_=>none
 | k+1,a,x,y,z,s=>if z<(a.length:Int) then ((step s x y z).bind λs'=>Be.lz step k a x y (wrap64 (z+1)) s') else some s
def Be.ly {S:Type} (step:S->Int->Int->Int->Option S):Nat->List Int->Int->Int->S->Option S
 | 0,_,_,_,_=>none
 | k+1,a,x,y,s=>if y<(a.length:Int) then ((Be.lz step k a x y (wrap64 (y+1)) s).bind λs'=>Be.ly step k a x (wrap64 (y+1)) s') else some s
def Be.lx {S:Type} (step:S->Int->Int->Int->Option S):Nat->List Int->Int->S->Option S
 | 0,_,_,_=>none
 | k+1,a,x,s=>if x<(a.length:Int) then ((Be.ly step k a x (wrap64 (x+1)) s).bind λs'=>Be.lx step k a (wrap64 (x+1)) s') else some s
def Be.f {S:Type} (step:S->Int->Int->Int->Option S) (k:Nat) (a:List Int) (s:S):Option S:=Be.lx step k a 0 s
def AQ.step (l:List Int) (s:Int) (x y z:Int):Option Int:=if 0<=x then (if x<(l.length:Int) then (if 0<=y then (if y<(l.length:Int) then (if 0<=z then (if z<(l.length:Int) then (if rd l z<wrap64 (rd l x+rd l y) then some (wrap64 (s+1)) else some s) else none) else none) else none) else none) else none) else none
def AQ.f (k:Nat) (l:List Int):Option (Int×Bool):=
 (AA.f k l).bind λt=>if t=true then ((Be.f (AQ.step l) k l 0).bind λr=>some (r,true)) else some (0,false)
def AG.step (l:List Int) (s:Int) (x y z:Int):Option Int:=if 0<=x then (if x<(l.length:Int) then (if 0<=y then (if y<(l.length:Int) then (if 0<=z then (if z<(l.length:Int) then (if rd l z<wrap64 (rd l x+rd l y) then some (mx s (wrap64 (wrap64 (rd l x+rd l y)+rd l z))) else some s) else none) else none) else none) else none) else none) else none
def AG.f (k:Nat) (l:List Int):Option (Int×Bool):=
 (AA.f k l).bind λt=>if t=true then ((Be.f (AG.step l) k l 0).bind λr=>some (r,decide (r>0))) else some (0,false)
def DN.f (k:Nat) (l0:List Int):Option (Bool):=(AQ.f k l0).bind λbt341=>(if bt341.2=true then (some (bt341.1==0)) else (some false))
def EF.f (k:Nat) (l0:List Int):Option (ByteArray×Bool):=(BT.f k l0).bind λt343=>(if t343=true then (if 2<(l0.length:Int) then (if 0<(l0.length:Int) then (if 1<(l0.length:Int) then (if (wrap64 ((wrap64 ((wrap64 ((rd l0 2)*(rd l0 2)))-(wrap64 ((rd l0 0)*(rd l0 0)))))-(wrap64 ((rd l0 1)*(rd l0 1)))))<0 then (some ((⟨#[97]⟩:ByteArray),true)) else (if (wrap64 ((wrap64 ((wrap64 ((rd l0 2)*(rd l0 2)))-(wrap64 ((rd l0 0)*(rd l0 0)))))-(wrap64 ((rd l0 1)*(rd l0 1)))))=0 then (some ((⟨#[114]⟩:ByteArray),true)) else (some ((⟨#[111]⟩:ByteArray),true)))) else (none)) else (none)) else (none)) else (some ((⟨#[]⟩:ByteArray),false)))
def EE.f (k:Nat) (l0:List Int):Option (List Int×Bool):=(BT.f k l0).bind λt350=>(if t350=true then ((B8.f k l0).bind λt351=>(if (Int.tmod t351 2)=0 then ((B8.f k l0).bind λt352=>(if 2<(l0.length:Int) then (if 1<(l0.length:Int) then (if 0<(l0.length:Int) then (some ((([wrap64 ((wrap64 (Int.tdiv t352 2))-(rd l0 2)),wrap64 ((wrap64 (Int.tdiv t352 2))-(rd l0 1)),wrap64 ((wrap64 (Int.tdiv t352 2))-(rd l0 0))]:List Int)),true)) else (none)) else (none)) else (none))) else (some (([]:List Int),false)))) else (some (([]:List Int),false)))
def ED.f (k:Nat) (l0:List Int):Option (Int×Bool):=(AA.f k l0).bind λt359=>(if t359=true then ((DU.f k l0).bind λt360=>(some (t360,true))) else (some (0,false)))
def BM.l0:Nat->List Int->Int->Option (Int×Bool)
 | 0,_,_=>none
 | k+1,x0,x4=>if x4>=3 then (if 0<=x4 then (if x4<=(x0.length:Int) then ((CI.f k (x0.take (x4:Int).toNat)).bind λt363=>(if t363=true then (some (x4,true)) else (BM.l0 k x0 (wrap64 (x4-1))))) else (none)) else (none)) else (some (0,true))
def BM.f (k:Nat) (l0:List Int):Option (Int×Bool):=(AA.f k l0).bind λt361=>(if t361=true then (BM.l0 k l0 (l0.length:Int)) else (some (0,false)))
def D5.f (k:Nat) (l0:List Int):Option (List Int×Bool):=(BM.f k l0).bind λbt364=>(if bt364.2=true then (if bt364.1=0 then (some (([]:List Int),false)) else (if 0<=bt364.1 then (if bt364.1<=(l0.length:Int) then ((Aj.f k (l0.take (bt364.1:Int).toNat)).bind λt367=>(some (t367,true))) else (none)) else (none))) else (some (([]:List Int),false)))
def EC.f (k:Nat) (l0:List Int):Option (Int×Bool):=(AA.f k l0).bind λt370=>(if t370=true then (if (l0.length:Int)<2 then (some (0,false)) else (if (l0.length:Int)>8 then (some (0,false)) else ((DU.f k l0).bind λt371=>(some (mx 1 (wrap64 (1-t371)),true))))) else (some (0,false)))
def D2.f (k:Nat) (l0:List Int):Option (Int×Bool):=(Cj.f k l0).bind λbt372=>(if bt372.2.2=true then (some (mx 1 bt372.1,true)) else (some (0,false)))
def AP.l1:Nat->List Int->Int->List Int->Int->Int->Int->Int->Option (List Int×Int×Int×Int)
 | 0,_,_,_,_,_,_,_=>none
 | k+1,l,m,t,p,lo,hi,i=>if i<(l.length:Int) then (if 0<=i then (if 0<=wrap64 (wrap64 ((l.length:Int)-1)-i) then (if t.length<1000 then
   (if Go.bits .and .i64 (shr .i64 m (wrap64 (wrap64 ((l.length:Int)-1)-i))) 1=0 then
    AP.l1 k l m (t++[114]) (wrap64 (p+rd l i)) (mn lo (wrap64 (p+rd l i))) (mx hi (wrap64 (p+rd l i))) (wrap64 (i+1))
   else AP.l1 k l m (t++[108]) (wrap64 (p-rd l i)) (mn lo (wrap64 (p-rd l i))) (mx hi (wrap64 (p-rd l i))) (wrap64 (i+1)))
   else none) else none) else none) else some (t,p,lo,hi)
def AP.l0 {S:Type} (step:S->ByteArray->Int->Int->Option S):Nat->List Int->Int->S->Int->Option S
 | 0,_,_,_,_=>none
 | k+1,l,n,s,m=>if m<n then ((AP.l1 k l m [] 0 0 0 0).bind λr=>(step s (strOfNums r.1) r.2.1 (wrap64 (r.2.2.2-r.2.2.1))).bind λs'=>AP.l0 step k l n s' (wrap64 (m+1))) else some s
def AP.f {S:Type} (step:S->ByteArray->Int->Int->Option S) (k:Nat) (l:List Int) (s:S):Option S:=AP.l0 step k l (shl .i64 1 (l.length:Int)) s 0
def Ba.step (s:List Int) (_t:ByteArray) (p _q:Int):Option (List Int):=if 0<=p then (if s.length<1000 then some (s++[p]) else none) else some s
def Ba.f (k:Nat) (l:List Int):Option (List Int×Bool):=
 (Am.f k l).bind λt=>if t=true then ((AP.f Ba.step k l []).bind λs=>if 0<s.length/\s.length<2000 then some (Lib.compact (s.mergeSort (λx y=>decide (x<=y))),true) else none) else some ([],false)
def Eh.f (k:Nat) (l0:List Int):Option (Int×Bool):=(Ba.f k l0).bind λbt375=>(if bt375.2=true then (if 0<(bt375.1.length:Int) then (some (rd bt375.1 0,true)) else (none)) else (some (0,false)))
def Cw.step (s:Int) (_t:ByteArray) (p _q:Int):Option Int:=some (if p=0 then wrap64 (s+1) else s)
def Cw.f (k:Nat) (l:List Int):Option (Int×Bool):=
 (Am.f k l).bind λt=>if t=true then ((AP.f Cw.step k l 0).bind λr=>some (r,true)) else some (0,false)
def BW.step (s:Int) (_t:ByteArray) (_p q:Int):Option Int:=some (mn s q)
def BW.f (k:Nat) (l:List Int):Option (Int×Bool):=
 (Am.f k l).bind λt=>if t=true then ((B8.f k l).bind λs=>(AP.f BW.step k l s).bind λr=>some (r,true)) else some (0,false)
def Bo.l0:Nat->List Bool->Bool->Int->Int->Option (Int)
 | 0,_,_,_,_=>none
 | k+1,x0,x1,x7,x8=>if x8<x7 then (if 0<=x8 then (if x8<(x0.length:Int) then (if (x1==(rdOf false x0 x8))=true then (some x8) else (Bo.l0 k x0 x1 x7 (wrap64 (x8+1)))) else (none)) else (none)) else (some (-1))
def Bo.f (k:Nat) (l0:List Bool) (a1:Bool):Option (Int):=Bo.l0 k l0 a1 (l0.length:Int) 0
def Cd.f (k:Nat) (l0:List Bool) (a1:Bool):Option (Bool):=(Bo.f k l0 a1).bind λt381=>(some (decide (t381>=0)))
mutual
def Ah.j0:Nat->List Int->Int->Bool->Option (Bool)
 | 0,_,_,_=>none
 | k+1,x0,x1,x18=>if x18=true then (some false) else ((B8.f k x0).bind λt383=>(Ah.l0 k x0 (mn x1 t383) (wrap64 ((mn x1 t383)+1)) 0))
def Ah.l0:Nat->List Int->Int->Int->Int->Option (Bool)
 | 0,_,_,_,_=>none
 | k+1,x0,x1,x24,x25=>if x25<x24 then (if 0<=(wrap64 (x1+1)) then (if (wrap64 (x1+1):Int).toNat<=281474976710656 then ((some (List.replicate (wrap64 (x1+1):Int).toNat false:List Bool)).bind λy384=>(if 0<=x25 then (if x25<(y384.length:Int) then (Ah.l1 k x0 x1 (y384.set (x25:Int).toNat true) x24 x25 x0 (x0.length:Int) 0) else (none)) else (none))) else (none)) else (none)) else (some false)
def Ah.l1:Nat->List Int->Int->List Bool->Int->Int->List Int->Int->Int->Option (Bool)
 | 0,_,_,_,_,_,_,_,_=>none
 | k+1,x0,x1,x6,x24,x25,x34,x35,x36=>if x36<x35 then (if 0<=x36 then (if x36<(x34.length:Int) then (if 0<=(wrap64 (x1+1)) then (if (wrap64 (x1+1):Int).toNat<=281474976710656 then (Ah.l2 k x0 x1 (rd x34 x36) (List.replicate (wrap64 (x1+1):Int).toNat false) x24 x25 x34 x35 x36 x6 (x6.length:Int) 0) else (none)) else (none)) else (none)) else (none)) else ((Cd.f k x6 true).bind λt388=>(if t388=true then (some true) else (Ah.l0 k x0 x1 x24 (wrap64 (x25+1)))))
def Ah.l2:Nat->List Int->Int->Int->List Bool->Int->Int->List Int->Int->Int->List Bool->Int->Int->Option (Bool)
 | 0,_,_,_,_,_,_,_,_,_,_,_,_=>none
 | k+1,x0,x1,x8,x9,x24,x25,x34,x35,x36,x43,x44,x45=>if x45<x44 then (if 0<=x45 then (if x45<(x43.length:Int) then (if rdOf false x43 x45=true then (Ah.j4 k x0 x1 x8 x9 x45 (rdOf false x43 x45) x24 x25 x34 x35 x36 x43 x44 x45 (decide ((wrap64 (x45+x8))<=x1))) else (Ah.j4 k x0 x1 x8 x9 x45 (rdOf false x43 x45) x24 x25 x34 x35 x36 x43 x44 x45 false)) else (none)) else (none)) else (Ah.l1 k x0 x1 x9 x24 x25 x34 x35 (wrap64 (x36+1)))
def Ah.j4:Nat->List Int->Int->Int->List Bool->Int->Bool->Int->Int->List Int->Int->Int->List Bool->Int->Int->Bool->Option (Bool)
 | 0,_,_,_,_,_,_,_,_,_,_,_,_,_,_,_=>none
 | k+1,x0,x1,x8,x9,x10,x11,x24,x25,x34,x35,x36,x43,x44,x45,x57=>if x57=true then (if 0<=(wrap64 (x10+x8)) then (if (wrap64 (x10+x8))<(x9.length:Int) then ((some (x9.set ((wrap64 (x10+x8)):Int).toNat true:List Bool)).bind λy394=>(if x11=true then (if (wrap64 (x10-x8))>=0 then (if 0<=(wrap64 (x10-x8)) then (if (wrap64 (x10-x8))<(x9.length:Int) then (Ah.l2 k x0 x1 x8 (y394.set ((wrap64 (x10-x8)):Int).toNat true) x24 x25 x34 x35 x36 x43 x44 (wrap64 (x45+1))) else (none)) else (none)) else (Ah.l2 k x0 x1 x8 y394 x24 x25 x34 x35 x36 x43 x44 (wrap64 (x45+1)))) else (Ah.l2 k x0 x1 x8 y394 x24 x25 x34 x35 x36 x43 x44 (wrap64 (x45+1))))) else (none)) else (none)) else (if x11=true then (if (wrap64 (x10-x8))>=0 then (if 0<=(wrap64 (x10-x8)) then (if (wrap64 (x10-x8))<(x9.length:Int) then (Ah.l2 k x0 x1 x8 (x9.set ((wrap64 (x10-x8)):Int).toNat true) x24 x25 x34 x35 x36 x43 x44 (wrap64 (x45+1))) else (none)) else (none)) else (Ah.l2 k x0 x1 x8 x9 x24 x25 x34 x35 x36 x43 x44 (wrap64 (x45+1)))) else (Ah.l2 k x0 x1 x8 x9 x24 x25 x34 x35 x36 x43 x44 (wrap64 (x45+1))))
end
def Ah.f (k:Nat) (l0:List Int) (a1:Int):Option (Bool):=(Am.f k l0).bind λt382=>(if t382=true then (Ah.j0 k l0 a1 (decide (a1<0))) else (Ah.j0 k l0 a1 true))
def Cv.l0:Nat->List Int->Int->Option (Int×Bool)
 | 0,_,_=>none
 | k+1,x0,x4=>(Ah.f k x0 x4).bind λt398=>(if t398=true then (some (x4,true)) else (Cv.l0 k x0 (wrap64 (x4+1))))
def Cv.f (k:Nat) (l0:List Int):Option (Int×Bool):=(Am.f k l0).bind λt397=>(if t397=true then (Cv.l0 k l0 0) else (some (0,false)))
def Av.l0:Nat->List Int->Int->Int->Option Int
 | 0,_,_,_=>none
 | k+1,l,m,i=>if i<(l.length:Int) then (if 0<=i then Av.l0 k l (mx m (rd l i)) (wrap64 (i+1)) else none) else some m
def Av.f (k:Nat) (l:List Int):Option Int:=if 0<l.length then Av.l0 k l (rd l 0) 1 else none
def BS.l0:Nat->Int->Int->Int->Int->List Int->Int->Int->Option (Int×Bool)
 | 0,_,_,_,_,_,_,_=>none
 | k+1,x4,x5,x6,x7,x15,x16,x17=>if x17<x16 then (if 0<=x17 then (if x17<(x15.length:Int) then (if (wrap64 (x5+(rd x15 x17)))<=x4 then (BS.l0 k x4 (wrap64 (x5+(rd x15 x17))) (mn x6 (wrap64 (x5+(rd x15 x17)))) (mx x7 (wrap64 (x5+(rd x15 x17)))) x15 x16 (wrap64 (x17+1))) else (BS.l0 k x4 (wrap64 (x5-(rd x15 x17))) (mn x6 (wrap64 (x5-(rd x15 x17)))) (mx x7 (wrap64 (x5-(rd x15 x17)))) x15 x16 (wrap64 (x17+1)))) else (none)) else (none)) else (some (wrap64 (x7-x6),true))
def BS.f (k:Nat) (l0:List Int):Option (Int×Bool):=(Am.f k l0).bind λt399=>(if t399=true then ((Av.f k l0).bind λt400=>(BS.l0 k t400 0 0 0 l0 (l0.length:Int) 0)) else (some (0,false)))
def BL.step (m:Int) (s t:ByteArray) (_p q:Int):Option ByteArray:=some (if q=m then (if s.size=0 then t else s) else s)
def BL.f (k:Nat) (l:List Int):Option (ByteArray×Bool):=
 (BW.f k l).bind λt=>if t.2=true then ((AP.f (BL.step t.1) k l ⟨#[]⟩).bind λr=>some (r,true)) else some (⟨#[]⟩,false)
def DS.f (k:Nat) (a0:Int) (a1:Int) (a2:Int):Option (Bool):=(Am.f k (([a0,a1,a2]:List Int))).bind λt405=>(if t405=true then (if a0<(wrap64 (a1+a2)) then (if a1<(wrap64 (a0+a2)) then (some (decide (a2<(wrap64 (a0+a1))))) else (some false)) else (some false)) else (some false))
mutual
def AZ.l0:Nat->List Int->List Int->Int->Int->Option (Bool)
 | 0,_,_,_,_=>none
 | k+1,x0,x1,x11,x12=>if x12<x11 then (AZ.l1 k x0 x1 x12 (([]:List Int)) x11 x12 x1 (x1.length:Int) 0) else (some true)
def AZ.l1:Nat->List Int->List Int->Int->List Int->Int->Int->List Int->Int->Int->Option (Bool)
 | 0,_,_,_,_,_,_,_,_,_=>none
 | k+1,x0,x1,x7,x8,x11,x12,x16,x17,x18=>if x18<x17 then (if 0<=x18 then (if x18<(x16.length:Int) then (if (rd x16 x18)=x7 then (if x18<(x0.length:Int) then (if x8.length<17592186044416 then (AZ.l1 k x0 x1 x7 (x8++[rd x0 x18]) x11 x12 x16 x17 (wrap64 (x18+1))) else (none)) else (none)) else (AZ.l1 k x0 x1 x7 x8 x11 x12 x16 x17 (wrap64 (x18+1)))) else (none)) else (none)) else (if (x8.length:Int)=3 then (if 0<(x8.length:Int) then (if 1<(x8.length:Int) then (if 2<(x8.length:Int) then ((DS.f k (rd x8 0) (rd x8 1) (rd x8 2)).bind λt417=>(if t417=true then (AZ.l0 k x0 x1 x11 (wrap64 (x12+1))) else (some false))) else (none)) else (none)) else (none)) else (some false))
end
def AZ.f (k:Nat) (l0:List Int) (l1:List Int) (a2:Int):Option (Bool):=AZ.l0 k l0 l1 a2 0
def BB.l0:Nat->Int->Int->List Int->Int->Int->Option (Int)
 | 0,_,_,_,_,_=>none
 | k+1,x1,x5,x8,x9,x10=>if x10<x9 then (if 0<=x10 then (if x10<(x8.length:Int) then (if (rd x8 x10)=x1 then (BB.l0 k x1 (wrap64 (x5+1)) x8 x9 (wrap64 (x10+1))) else (BB.l0 k x1 x5 x8 x9 (wrap64 (x10+1)))) else (none)) else (none)) else (some x5)
def BB.f (k:Nat) (l0:List Int) (a1:Int):Option (Int):=BB.l0 k a1 0 l0 (l0.length:Int) 0
def Ai.t {S:Type} (step:S->List Int->Option S):Nat->Nat->List Int->List Int->Int->Int->S->Option S
 | 0,_,_,_,_,_,_=>none
 | k+1,0,a,l,m,_,s=>if (l.length:Int)=(a.length:Int) then ((AZ.f k a l m).bind λb=>if b=true then step s l else some s) else Ai.t step k 1 a l m (-1) s
 | k+1,1,a,l,m,i,s=>if i<=m then (if 0<=i then ((BB.f k l i).bind λc=>if c=3 then Ai.t step k 1 a l m (wrap64 (i+1)) s else Ai.t step k 2 a l m i s) else Ai.t step k 2 a l m i s) else some s
 | k+1,_,a,l,m,i,s=>if l.length<1000 then ((if i=m then Ai.t step k 0 a (l++[i]) (wrap64 (m+1)) 0 s else Ai.t step k 0 a (l++[i]) m 0 s).bind λs'=>Ai.t step k 1 a l m (wrap64 (i+1)) s') else none
def Ai.f {S:Type} (step:S->List Int->Option S) (k:Nat) (a:List Int) (s:S):Option S:=if a.length<=1000 then Ai.t step k 0 a [] 0 0 s else none
def AY.step (k:Nat) (s:Int) (xs:List Int):Option Int:=(AF.f k xs (-1)).bind λb=>some (if b=true then s else wrap64 (s+1))
def AY.f (k:Nat) (l:List Int):Option (Int×Bool):=
 (AA.f k l).bind λt=>if t=true then ((Ai.f (AY.step k) k l 0).bind λr=>some (r,true)) else some (0,false)
def AN.step (k:Nat) (s:Int) (xs:List Int):Option Int:=(Av.f k xs).bind λm=>some (mx s (wrap64 (m+1)))
def AN.f (k:Nat) (l:List Int):Option (Int×Bool):=
 (AA.f k l).bind λt=>if t=true then ((Ai.f (AN.step k) k l 0).bind λr=>some (r,true)) else some (0,false)
mutual
def Bw.l0:Nat->List Int->Int->Int->Option (Int×Bool)
 | 0,_,_,_=>none
 | k+1,x0,x4,x5=>if x5<(shl .i64 1 (x0.length:Int)) then (Bw.l1 k x0 x4 x5 0 x0 (x0.length:Int) 0) else (some (x4,true))
def Bw.l1:Nat->List Int->Int->Int->Int->List Int->Int->Int->Option (Int×Bool)
 | 0,_,_,_,_,_,_,_=>none
 | k+1,x0,x4,x5,x6,x19,x20,x21=>if x21<x20 then (if 0<=x21 then (if x21<(x19.length:Int) then (Bw.l1 k x0 x4 x5 (wrap64 (x6+(wrap64 ((rd x19 x21)*(Go.bits .and .i64 (shr .i64 x5 x21) 1))))) x19 x20 (wrap64 (x21+1))) else (none)) else (none)) else ((B8.f k x0).bind λt421=>(if (wrap64 (2*x6))=t421 then (Bw.l0 k x0 (wrap64 (x4+1)) (wrap64 (x5+2))) else (Bw.l0 k x0 x4 (wrap64 (x5+2)))))
end
def Bw.f (k:Nat) (l0:List Int):Option (Int×Bool):=(AA.f k l0).bind λt419=>(if t419=true then (Bw.l0 k l0 0 1) else (some (0,false)))
def Ck.j0:Nat->List Int->Bool->Option (ByteArray×Bool)
 | 0,_,_=>none
 | k+1,x0,x11=>if x11=true then (some ((⟨#[]⟩:ByteArray),false)) else ((CI.f k x0).bind λt423=>(if t423=true then (some ((⟨#[99,108,111,115,101,115]⟩:ByteArray),true)) else ((DU.f k x0).bind λt424=>((strconv_Itoa.f (wrap64 (-t424))).bind λt425=>(if 5+t425.size<=9223372036854775807 then (some ((⟨#[111,112,101,110,32]⟩:ByteArray)++t425,true)) else (none))))))
def Ck.f (k:Nat) (l0:List Int):Option (ByteArray×Bool):=(AA.f k l0).bind λt422=>(if t422=true then (Ck.j0 k l0 (decide ((l0.length:Int)<3))) else (Ck.j0 k l0 true))
def AK.step (k:Nat) (n:Int) (s:List Int) (xs:List Int):Option (List Int):=if s=[] then ((Av.f k xs).bind λm=>if wrap64 (m+1)=n then Aj.f k xs else some s) else some s
def AK.f (k:Nat) (l:List Int):Option (List Int×Bool):=
 (AN.f k l).bind λt=>if t.2=true then ((Ai.f (AK.step k t.1) k l []).bind λr=>some (r,true)) else some ([],false)
def Dq.f (k:Nat) (l0:List Int):Option (ByteArray×Bool):=(AK.f k l0).bind λbt426=>(if bt426.2=true then ((Bb.f k bt426.1 (⟨#[32]⟩:ByteArray)).bind λt430=>(some (t430,true))) else (some ((⟨#[]⟩:ByteArray),false)))
def Cu.f (a0:Int) (a1:Int) (a2:Int):Option (Bool):=if a0>=a1 then (some (decide (a0<=a2))) else (some false)
mutual
def Ay.l0:Nat->ByteArray->List Int->Int->Int->Option (List Int)
 | 0,_,_,_,_=>none
 | k+1,x0,x3,x4,x5=>if x5<=(x0.size:Int) then (if x5<(x0.size:Int) then (if 0<=x5 then (Ay.j1 k x0 x3 x4 x5 ((bt x0 x5) != 32)) else (none)) else (Ay.j1 k x0 x3 x4 x5 false)) else (some x3)
def Ay.j1:Nat->ByteArray->List Int->Int->Int->Bool->Option (List Int)
 | 0,_,_,_,_,_=>none
 | k+1,x0,x3,x4,x5,x24=>if x24=true then (Ay.l0 k x0 x3 x4 (wrap64 (x5+1))) else ((Cu.f (wrap64 (x5-x4)) 1 3).bind λt434=>(if t434=true then (Ay.l1 k x0 x3 x5 0 x4) else (some (([]:List Int)))))
def Ay.l1:Nat->ByteArray->List Int->Int->Int->Int->Option (List Int)
 | 0,_,_,_,_,_=>none
 | k+1,x0,x3,x5,x6,x7=>if x7<x5 then (if 0<=x7 then (if x7<(x0.size:Int) then (if (bt x0 x7)<48 then (some (([]:List Int))) else (if (bt x0 x7)>57 then (some (([]:List Int))) else (Ay.l1 k x0 x3 x5 (wrap64 ((wrap64 (10*x6))+(((bt x0 x7)-48) % 256))) (wrap64 (x7+1))))) else (none)) else (none)) else (if x3.length<17592186044416 then (Ay.l0 k x0 (x3++[x6]) (wrap64 (x5+1)) (wrap64 (x5+1))) else (none))
end
def Ay.f (k:Nat) (a0:ByteArray):Option (List Int):=Ay.l0 k a0 (([]:List Int)) 0 0
def Ar.l0:Nat->List Int->Int->Option (Bool)
 | 0,_,_=>none
 | k+1,x0,x3=>if x3<(x0.length:Int) then (if 0<=x3 then ((Cu.f (rd x0 x3) 1 60).bind λt448=>(if t448=true then (if x3>0 then (if 0<=(wrap64 (x3-1)) then (if (wrap64 (x3-1))<(x0.length:Int) then (if (rd x0 x3)<(rd x0 (wrap64 (x3-1))) then (some false) else (Ar.l0 k x0 (wrap64 (x3+1)))) else (none)) else (none)) else (Ar.l0 k x0 (wrap64 (x3+1)))) else (some false))) else (none)) else ((Cu.f (x0.length:Int) 1 9).bind λt451=>(some t451))
def Ar.f (k:Nat) (l0:List Int):Option (Bool):=Ar.l0 k l0 0
def Fg.f (k:Nat) (l0:List Int):Option (List Int×Bool):=(Ar.f k l0).bind λt452=>(if t452=true then (some (l0,true)) else (some ((([]:List Int)),false)))
mutual
def BP.l0:Nat->List Int->List Int->Int->Option (List Int)
 | 0,_,_,_=>none
 | k+1,x0,x3,x4=>if x4<(x0.length:Int) then (BP.l1 k x0 x3 x4 (x3.length:Int)) else some x3
def BP.l1:Nat->List Int->List Int->Int->Int->Option (List Int)
 | 0,_,_,_,_=>none
 | k+1,x0,x3,x4,x5=>if 0<=x4 then (if x4<(x0.length:Int) then (if 0<=x5 then (if x5<=(x3.length:Int) then (if x3.length<1000 then (if x5>0 then (if 0<=wrap64 (x5-1) then (if wrap64 (x5-1)<(x3.length:Int) then (if rd x0 x4<rd x3 (wrap64 (x5-1)) then BP.l1 k x0 x3 x4 (wrap64 (x5-1)) else BP.l0 k x0 ((([]++x3.take x5.toNat)++[rd x0 x4])++x3.drop x5.toNat) (wrap64 (x4+1))) else none) else none) else BP.l0 k x0 ((([]++x3.take x5.toNat)++[rd x0 x4])++x3.drop x5.toNat) (wrap64 (x4+1))) else none) else none) else none) else none) else none
end
def BP.f (k:Nat) (l0:List Int):Option (List Int):=BP.l0 k l0 [] 0
def Ea.f (k:Nat) (l0:List Int):Option (List Int×Bool):=if (l0.length:Int)>9 then (some ((([]:List Int)),false)) else ((BP.f k l0).bind λt459=>((Fg.f k t459).bind λbt462=>(some (bt462.1,bt462.2))))
def Bj.l0:Nat->List Int->Int->Option (Bool)
 | 0,_,_=>none
 | k+1,x0,x3=>if x3<(x0.length:Int) then (if 0<=x3 then ((Cu.f (rd x0 x3) 1 60).bind λt467=>(if t467=true then (Bj.l0 k x0 (wrap64 (x3+1))) else (some false))) else (none)) else ((Cu.f (x0.length:Int) 1 9).bind λt468=>(some t468))
def Bj.f (k:Nat) (l0:List Int):Option (Bool):=Bj.l0 k l0 0
def CF.l0:Nat->List Int->List Int->Int->Option (List Int×Bool)
 | 0,_,_,_=>none
 | k+1,x0,x4,x5=>if x5>=0 then (if 0<=x5 then (if x5<(x0.length:Int) then (if x4.length<17592186044416 then (CF.l0 k x0 (x4++[rd x0 x5]) (wrap64 (x5-1))) else (none)) else (none)) else (none)) else (some (x4,true))
def CF.f (k:Nat) (l0:List Int):Option (List Int×Bool):=(some (([]:List Int):List Int)).bind λy469=>((Bj.f k l0).bind λt472=>(if t472=true then (CF.l0 k l0 y469 (wrap64 ((l0.length:Int)-1))) else (some (y469,false))))
def Dt.f (k:Nat) (l0:List Int):Option (List Int×Bool):=(Bj.f k l0).bind λt477=>(some (l0,t477))
def Bu.f (k:Nat) (a:List Int) (w r:ByteArray) (bare:Bool):Option (List Int×Bool×Bool):=(Ay.f k r).bind λt=>
 (if bare=true then (if w.toList=[115,111,114,116] then ((Ea.f k a).bind λs=>some (s.1,true,s.2)) else (if w.toList=[98,97,99,107] then ((CF.f k a).bind λs=>some (s.1,true,s.2)) else some (a,false,false)))
 else (if w.toList=[115,101,116] then ((Dt.f k t).bind λs=>some (s.1,true,s.2))
 else (if w.toList=[112,117,116] then (if (t.length:Int)=1 then (if 0<(t.length:Int) then (if a.length<1000000 then ((Dt.f k (([]++a)++[rd t 0])).bind λs=>some (s.1,true,s.2)) else none) else none) else some (a,true,false))
 else (if w.toList=[100,114,111,112] then (if (t.length:Int)=1 then (if 0<(t.length:Int) then (if rd t 0<(a.length:Int) then (if a.length<1000000 then (if 0<=rd t 0 then (if rd t 0<=(a.length:Int) then (if 0<=wrap64 (rd t 0+1) then (if wrap64 (rd t 0+1)<=(a.length:Int) then
   ((Dt.f k (([]++a.take (rd t 0).toNat)++a.drop (wrap64 (rd t 0+1)).toNat)).bind λs=>some (s.1,true,s.2)) else none) else none) else none) else none) else none) else some (a,true,false)) else none) else some (a,true,false))
 else some (a,false,false)))))
def AE.f:Nat->Int->Option (ByteArray)
 | 0,_=>none
 | k+1,a0=>if a0<(-9223372036854775807) then (some (⟨#[45,57,50,50,51,51,55,50,48,51,54,56,53,52,55,55,53,56,48,56]⟩:ByteArray)) else (if a0<0 then ((AE.f k (wrap64 (-a0))).bind λt534=>(if 1+t534.size<=9223372036854775807 then (some ((⟨#[45]⟩:ByteArray)++t534)) else (none))) else (if a0<10 then (some (strOfNums (([(wrap64 (48+a0)) % 256]:List Int)))) else ((AE.f k (wrap64 (Int.tdiv a0 10))).bind λt538=>((some (([(wrap64 (48+(Int.tmod a0 10))) % 256]:List Int):List Int)).bind λy539=>(if t538.size+(strOfNums y539).size<=9223372036854775807 then (some (t538++(strOfNums y539))) else (none))))))
def Cq.l0:Nat->List Int->ByteArray->ByteArray->Int->Option (ByteArray)
 | 0,_,_,_,_=>none
 | k+1,x0,x1,x5,x6=>if x6<(x0.length:Int) then (if x6>0 then (if x5.size+x1.size<=9223372036854775807 then (if 0<=x6 then ((AE.f k (rd x0 x6)).bind λt543=>(if (x5++x1).size+t543.size<=9223372036854775807 then (Cq.l0 k x0 x1 ((x5++x1)++t543) (wrap64 (x6+1))) else (none))) else (none)) else (none)) else (if 0<=x6 then ((AE.f k (rd x0 x6)).bind λt545=>(if x5.size+t545.size<=9223372036854775807 then (Cq.l0 k x0 x1 (x5++t545) (wrap64 (x6+1))) else (none))) else (none))) else (some x5)
def Cq.f (k:Nat) (l0:List Int) (a1:ByteArray):Option (ByteArray):=Cq.l0 k l0 a1 (⟨#[]⟩:ByteArray) 0
def BG.f (k:Nat) (l0:List Int) (a1:Bool):Option (ByteArray):=if a1=true then (if (l0.length:Int)=0 then (some (⟨#[46,10]⟩:ByteArray)) else ((Cq.f k l0 (⟨#[32]⟩:ByteArray)).bind λt546=>(if t546.size+1<=9223372036854775807 then (some (t546++(⟨#[10]⟩:ByteArray))) else (none)))) else (some (⟨#[110,111,10]⟩:ByteArray))
def Bq.f (k:Nat) (a0:Int) (a1:Bool):Option (ByteArray):=(BG.f k (([a0]:List Int)) a1).bind λt550=>(some t550)
def B4.l0:Nat->List Int->Int->Int->Option (Int)
 | 0,_,_,_=>none
 | k+1,x0,x3,x4=>if x4<(x0.length:Int) then (if 0<=x4 then (B4.l0 k x0 (wrap64 (x3+(rd x0 x4))) (wrap64 (x4+1))) else (none)) else (some x3)
def B4.f (k:Nat) (l0:List Int):Option (Int):=B4.l0 k l0 0 0
def En.f (k:Nat) (l0:List Int):Option (Int×Bool):=(Ar.f k l0).bind λt552=>(if t552=true then ((B4.f k l0).bind λt553=>(some (t553,true))) else (some (0,false)))
def Ca.f (a0:Int) (a1:Int) (a2:Int):Option (Bool):=if a0<(wrap64 (a1+a2)) then (if a1<(wrap64 (a0+a2)) then (some (decide (a2<(wrap64 (a0+a1))))) else (some false)) else (some false)
mutual
def Bf.l0:Nat->List Int->Int->Int->Option (Int)
 | 0,_,_,_=>none
 | k+1,x0,x3,x4=>if x4<(x0.length:Int) then (Bf.l1 k x0 x3 x4 0) else (some x3)
def Bf.l1:Nat->List Int->Int->Int->Int->Option (Int)
 | 0,_,_,_,_=>none
 | k+1,x0,x3,x4,x5=>if x5<x4 then (Bf.l2 k x0 x3 x4 x5 0) else (Bf.l0 k x0 x3 (wrap64 (x4+1)))
def Bf.l2:Nat->List Int->Int->Int->Int->Int->Option (Int)
 | 0,_,_,_,_,_=>none
 | k+1,x0,x3,x4,x5,x6=>if x6<x5 then (if 0<=x4 then (if x4<(x0.length:Int) then (if 0<=x5 then (if x5<(x0.length:Int) then (if 0<=x6 then (if x6<(x0.length:Int) then ((Ca.f (rd x0 x4) (rd x0 x5) (rd x0 x6)).bind λt557=>(if t557=true then (Bf.l2 k x0 (wrap64 (x3+1)) x4 x5 (wrap64 (x6+1))) else (Bf.l2 k x0 x3 x4 x5 (wrap64 (x6+1))))) else (none)) else (none)) else (none)) else (none)) else (none)) else (none)) else (Bf.l1 k x0 x3 x4 (wrap64 (x5+1)))
end
def Bf.f (k:Nat) (l0:List Int):Option (Int):=Bf.l0 k l0 0 0
def DP.f (k:Nat) (l0:List Int):Option (Int×Bool):=(Ar.f k l0).bind λt558=>(if t558=true then ((Bf.f k l0).bind λt559=>(some (t559,true))) else (some (0,false)))
def Bg.l0:Nat->List Int->Int->Option (Int×Bool)
 | 0,_,_=>none
 | k+1,x0,x4=>if x4>1 then (if 0<=x4 then (if x4<(x0.length:Int) then (if 0<=(wrap64 (x4-1)) then (if (wrap64 (x4-1))<(x0.length:Int) then (if 0<=(wrap64 (x4-2)) then (if (wrap64 (x4-2))<(x0.length:Int) then ((Ca.f (rd x0 x4) (rd x0 (wrap64 (x4-1))) (rd x0 (wrap64 (x4-2)))).bind λt564=>(if t564=true then (some (wrap64 ((wrap64 ((rd x0 x4)+(rd x0 (wrap64 (x4-1)))))+(rd x0 (wrap64 (x4-2)))),true)) else (Bg.l0 k x0 (wrap64 (x4-1))))) else (none)) else (none)) else (none)) else (none)) else (none)) else (none)) else (some (0,false))
def Bg.f (k:Nat) (l0:List Int):Option (Int×Bool):=(Ar.f k l0).bind λt560=>(if t560=true then (Bg.l0 k l0 (wrap64 ((l0.length:Int)-1))) else (some (0,false)))
def DO.f (k:Nat) (l0:List Int):Option (Bool):=(Ar.f k l0).bind λt568=>(if t568=true then ((Bf.f k l0).bind λt569=>(some (t569==0))) else (some false))
def CT.f (a0:ByteArray) (a1:Bool):Option (ByteArray):=if a1=true then (if a0.size+1<=9223372036854775807 then (some (a0++(⟨#[10]⟩:ByteArray))) else (none)) else (some (⟨#[110,111,10]⟩:ByteArray))
def Ec.f (k:Nat) (l0:List Int):Option (Bool):=if (l0.length:Int)=3 then ((Ar.f k l0).bind λt570=>(if t570=true then (if 0<(l0.length:Int) then (if 1<(l0.length:Int) then (if 2<(l0.length:Int) then ((Ca.f (rd l0 0) (rd l0 1) (rd l0 2)).bind λt574=>(some t574)) else (none)) else (none)) else (none)) else (some false))) else (some false)
def EM.f (k:Nat) (l0:List Int):Option (ByteArray×Bool):=(Ec.f k l0).bind λt575=>(if t575=true then (if 0<(l0.length:Int) then (if 1<(l0.length:Int) then (if 2<(l0.length:Int) then (if (wrap64 ((wrap64 ((wrap64 ((rd l0 0)*(rd l0 0)))+(wrap64 ((rd l0 1)*(rd l0 1)))))-(wrap64 ((rd l0 2)*(rd l0 2)))))>0 then (some ((⟨#[97]⟩:ByteArray),true)) else (if (wrap64 ((wrap64 ((wrap64 ((rd l0 0)*(rd l0 0)))+(wrap64 ((rd l0 1)*(rd l0 1)))))-(wrap64 ((rd l0 2)*(rd l0 2)))))=0 then (some ((⟨#[114]⟩:ByteArray),true)) else (some ((⟨#[111]⟩:ByteArray),true)))) else (none)) else (none)) else (none)) else (some ((⟨#[]⟩:ByteArray),false)))
def Ex.f (a0:Int) (a1:Int) (a2:Int):Option (Int):=some (wrap64 ((wrap64 ((wrap64 ((wrap64 ((wrap64 (a0+a1))+a2))*(wrap64 ((wrap64 (a0+a1))-a2))))*(wrap64 ((wrap64 (a0+a2))-a1))))*(wrap64 ((wrap64 (a1+a2))-a0))))
def EK.f (k:Nat) (l0:List Int):Option (Int×Bool):=(Ec.f k l0).bind λt582=>(if t582=true then (if 0<(l0.length:Int) then (if 1<(l0.length:Int) then (if 2<(l0.length:Int) then ((Ex.f (rd l0 0) (rd l0 1) (rd l0 2)).bind λt586=>(some (t586,true))) else (none)) else (none)) else (none)) else (some (0,false)))
def EL.f (k:Nat) (l0:List Int):Option (List Int×Bool):=(Ec.f k l0).bind λt587=>(if t587=true then ((B4.f k l0).bind λt588=>(if (Int.tmod t588 2)=1 then (some ((([]:List Int)),false)) else ((B4.f k l0).bind λt592=>(if 2<(l0.length:Int) then (if 1<(l0.length:Int) then (if 0<(l0.length:Int) then (some ((([wrap64 ((wrap64 (Int.tdiv t592 2))-(rd l0 2)),wrap64 ((wrap64 (Int.tdiv t592 2))-(rd l0 1)),wrap64 ((wrap64 (Int.tdiv t592 2))-(rd l0 0))]:List Int)),true)) else (none)) else (none)) else (none))))) else (some ((([]:List Int)),false)))
def Dw.f (k:Nat) (l0:List Int):Option (Int):=(B4.f k l0).bind λt602=>(if 0<=(wrap64 ((l0.length:Int)-1)) then (if (wrap64 ((l0.length:Int)-1))<(l0.length:Int) then (some (wrap64 (t602-(wrap64 (2*(rd l0 (wrap64 ((l0.length:Int)-1)))))))) else (none)) else (none))
def EJ.f (k:Nat) (l0:List Int):Option (Int×Bool):=(Ar.f k l0).bind λt604=>(if t604=true then ((Dw.f k l0).bind λt605=>(some (t605,true))) else (some (0,false)))
def CW.f (k:Nat) (l0:List Int):Option (Bool):=if (l0.length:Int)>=3 then ((Dw.f k l0).bind λt606=>(some (decide (t606>0)))) else (some false)
def CB.l0:Nat->List Int->Int->Option (Int)
 | 0,_,_=>none
 | k+1,x0,x3=>if x3>2 then (if 0<=x3 then (if x3<=(x0.length:Int) then ((CW.f k (x0.take (x3:Int).toNat)).bind λt608=>(if t608=true then (some x3) else (CB.l0 k x0 (wrap64 (x3-1))))) else (none)) else (none)) else (some 0)
def CB.f (k:Nat) (l0:List Int):Option (Int):=CB.l0 k l0 (l0.length:Int)
def Em.f (k:Nat) (l0:List Int):Option (Int×Bool):=(Ar.f k l0).bind λt609=>(if t609=true then ((CB.f k l0).bind λt610=>(some (t610,true))) else (some (0,false)))
def D9.f (k:Nat) (l0:List Int):Option (List Int×Bool):=(Ar.f k l0).bind λt611=>(if t611=true then ((CB.f k l0).bind λt612=>(if t612=0 then (some ((([]:List Int)),false)) else ((some (([]:List Int):List Int)).bind λy616=>((CB.f k l0).bind λt619=>(if 0<=t619 then (if t619<=(l0.length:Int) then (if y616.length+(l0.take (t619:Int).toNat).length<17592186044416 then (some ((y616++(l0.take (t619:Int).toNat)),true)) else (none)) else (none)) else (none)))))) else (some ((([]:List Int)),false)))
def EI.f (k:Nat) (l0:List Int):Option (Int×Bool):=(Ar.f k l0).bind λt627=>(if t627=true then (if (l0.length:Int)<2 then (some (0,false)) else (if (l0.length:Int)=9 then (some (0,false)) else ((Dw.f k l0).bind λt628=>(some (mx 1 (wrap64 (1-t628)),decide ((mx 1 (wrap64 (1-t628)))<=60)))))) else (some (0,false)))
def Dx.f (k:Nat) (l0:List Int):Option (Int×Int):=(B4.f k l0).bind λt629=>(if 0<=(wrap64 ((l0.length:Int)-1)) then (if (wrap64 ((l0.length:Int)-1))<(l0.length:Int) then (some (mx 0 (wrap64 ((wrap64 (2*(rd l0 (wrap64 ((l0.length:Int)-1)))))-t629)),t629)) else (none)) else (none))
def DT.f (k:Nat) (l0:List Int):Option (Int×Int×Bool):=(Ar.f k l0).bind λt631=>(if t631=true then ((Dx.f k l0).bind λbt632=>(some (bt632.1,bt632.2,true))) else (some (0,0,false)))
def D8.f (k:Nat) (l0:List Int):Option (Int×Bool):=(Ar.f k l0).bind λt634=>(if t634=true then ((Dx.f k l0).bind λbt635=>(some (mx 1 bt635.1,true))) else (some (0,false)))
mutual
def Au.l0:Nat->List Int->Int->Int->Int->Option (Int)
 | 0,_,_,_,_=>none
 | k+1,x0,x1,x2,x7=>if 0<=x7 then (if (Go.bits .and .i64 (shr .i64 x1 x7) 1)=0 then (Au.l0 k x0 x1 x2 (wrap64 (x7+1))) else (Au.l1 k x0 x1 x2 x7 0 (wrap64 (x7+1)))) else (none)
def Au.l1:Nat->List Int->Int->Int->Int->Int->Int->Option (Int)
 | 0,_,_,_,_,_,_=>none
 | k+1,x0,x1,x2,x7,x8,x9=>if x9<(x0.length:Int) then (Au.l2 k x0 x1 x2 x7 x8 x9 (wrap64 (x9+1))) else (some x8)
def Au.l2:Nat->List Int->Int->Int->Int->Int->Int->Int->Option (Int)
 | 0,_,_,_,_,_,_,_=>none
 | k+1,x0,x1,x2,x7,x8,x9,x10=>if x10<(x0.length:Int) then (if 0<=x7 then (if 0<=x9 then (if 0<=x10 then (if (Go.bits .and .i64 x1 (Go.bits .or .i64 (Go.bits .or .i64 (shl .i64 1 x7) (shl .i64 1 x9)) (shl .i64 1 x10)))=(Go.bits .or .i64 (Go.bits .or .i64 (shl .i64 1 x7) (shl .i64 1 x9)) (shl .i64 1 x10)) then (if x7<(x0.length:Int) then (if x9<(x0.length:Int) then ((Ca.f (rd x0 x7) (rd x0 x9) (rd x0 x10)).bind λt640=>(if t640=true then (if x2=0 then ((Au.f k x0 (Go.bits .andNot .i64 x1 (Go.bits .or .i64 (Go.bits .or .i64 (shl .i64 1 x7) (shl .i64 1 x9)) (shl .i64 1 x10))) x2).bind λt641=>(Au.l2 k x0 x1 x2 x7 (wrap64 (x8+t641)) x9 (wrap64 (x10+1)))) else (if (wrap64 ((wrap64 ((rd x0 x7)+(rd x0 x9)))+(rd x0 x10)))=x2 then ((Au.f k x0 (Go.bits .andNot .i64 x1 (Go.bits .or .i64 (Go.bits .or .i64 (shl .i64 1 x7) (shl .i64 1 x9)) (shl .i64 1 x10))) x2).bind λt645=>(Au.l2 k x0 x1 x2 x7 (wrap64 (x8+t645)) x9 (wrap64 (x10+1)))) else (Au.l2 k x0 x1 x2 x7 x8 x9 (wrap64 (x10+1))))) else (Au.l2 k x0 x1 x2 x7 x8 x9 (wrap64 (x10+1))))) else (none)) else (none)) else (Au.l2 k x0 x1 x2 x7 x8 x9 (wrap64 (x10+1)))) else (none)) else (none)) else (none)) else (Au.l1 k x0 x1 x2 x7 x8 (wrap64 (x9+1)))
def Au.f:Nat->List Int->Int->Int->Option (Int)
 | 0,_,_,_=>none
 | k+1,l0,a1,a2=>if a1=0 then (some 1) else (Au.l0 k l0 a1 a2 0)
end
def D0.f (k:Nat) (l0:List Int):Option (Int×Bool):=(Ar.f k l0).bind λt646=>(if t646=true then ((Au.f k l0 (wrap64 ((shl .i64 1 (l0.length:Int))-1)) 0).bind λt647=>(some (t647,true))) else (some (0,false)))
def Cc.l0:Nat->List Int->Int->Int->Option (Int)
 | 0,_,_,_=>none
 | k+1,x0,x3,x4=>if x4<(x0.length:Int) then (if 0<=x4 then (Cc.l0 k x0 (mx x3 (wrap64 ((rd x0 x4)+1))) (wrap64 (x4+1))) else (none)) else (some x3)
def Cc.f (k:Nat) (l0:List Int):Option (Int):=Cc.l0 k l0 0 0
def Ds.l0:Nat->List Int->Int->List Int->Int->Option (List Int)
 | 0,_,_,_,_=>none
 | k+1,x0,x1,x5,x6=>if x6<(x0.length:Int) then (if 0<=x6 then (if (rd x0 x6)=x1 then (if x5.length<17592186044416 then (Ds.l0 k x0 x1 (x5++[x6]) (wrap64 (x6+1))) else (none)) else (Ds.l0 k x0 x1 x5 (wrap64 (x6+1)))) else (none)) else (some x5)
def Ds.f (k:Nat) (l0:List Int) (a1:Int):Option (List Int):=Ds.l0 k l0 a1 (([]:List Int)) 0
mutual
def AR.l0:Nat->List Int->Int->Int->Option ((List (List Int)))
 | 0,_,_,_=>none
 | k+1,x1,x2,x8=>if x8<x2 then ((Ds.f k x1 x8).bind λt656=>(if (t656.length:Int)=3 then (AR.l0 k x1 x2 (wrap64 (x8+1))) else (some (([]:List (List Int)))))) else ((some (([]:List Int):List Int)).bind λy662=>(if y662.length+x1.length<17592186044416 then (some (([(y662++x1)]:List (List Int)))) else (none)))
def AR.l1:Nat->List Int->List Int->Int->Int->List (List Int)->Int->Option ((List (List Int)))
 | 0,_,_,_,_,_,_=>none
 | k+1,x0,x1,x2,x7,x9,x10=>if x10<=x2 then ((Ds.f k x1 x10).bind λt683=>(if (t683.length:Int)=3 then (AR.l1 k x0 x1 x2 x7 x9 (wrap64 (x10+1))) else (if (t683.length:Int)=2 then (if 0<(t683.length:Int) then (if 0<=(rd t683 0) then (if (rd t683 0)<(x0.length:Int) then (if 1<(t683.length:Int) then (if 0<=(rd t683 1) then (if (rd t683 1)<(x0.length:Int) then (if 0<=x7 then (if x7<(x0.length:Int) then ((Ca.f (rd x0 (rd t683 0)) (rd x0 (rd t683 1)) (rd x0 x7)).bind λt691=>(if t691=true then ((some (([]:List Int):List Int)).bind λy692=>(if y692.length+x1.length<17592186044416 then ((some (y692++x1:List Int)).bind λy695=>(if y695.length<17592186044416 then ((AR.f k x0 (y695++[x10]) (mx x2 (wrap64 (x10+1)))).bind λt701=>(if x9.length+t701.length<5864062014805 then (AR.l1 k x0 x1 x2 x7 (x9++t701) (wrap64 (x10+1))) else (none))) else (none))) else (none))) else (AR.l1 k x0 x1 x2 x7 x9 (wrap64 (x10+1))))) else (none)) else (none)) else (none)) else (none)) else (none)) else (none)) else (none)) else (none)) else ((some (([]:List Int):List Int)).bind λy707=>(if y707.length+x1.length<17592186044416 then ((some (y707++x1:List Int)).bind λy710=>(if y710.length<17592186044416 then ((AR.f k x0 (y710++[x10]) (mx x2 (wrap64 (x10+1)))).bind λt716=>(if x9.length+t716.length<5864062014805 then (AR.l1 k x0 x1 x2 x7 (x9++t716) (wrap64 (x10+1))) else (none))) else (none))) else (none)))))) else (some x9)
def AR.f:Nat->List Int->List Int->Int->Option ((List (List Int)))
 | 0,_,_,_=>none
 | k+1,l0,l1,a2=>if (l1.length:Int)=(l0.length:Int) then (AR.l0 k l1 a2 0) else ((some (([]:List Int):List Int)).bind λy671=>(if y671.length+l1.length<17592186044416 then ((some (y671++l1:List Int)).bind λy674=>(if y674.length<17592186044416 then ((AR.f k l0 (y674++[(-1)]) a2).bind λt680=>(AR.l1 k l0 l1 a2 (l1.length:Int) t680 0)) else (none))) else (none)))
end
def CJ.l0:Nat->List (List Int)->List Int->Int->Option (List Int)
 | 0,_,_,_=>none
 | k+1,x3,x4,x5=>if x5<(x3.length:Int) then (if 0<=x5 then ((Cc.f k (EU x3 x5)).bind λt730=>((Cc.f k x4).bind λt731=>(if t730>t731 then (CJ.l0 k x3 (EU x3 x5) (wrap64 (x5+1))) else (CJ.l0 k x3 x4 (wrap64 (x5+1)))))) else (none)) else (some x4)
def CJ.f (k:Nat) (l0:List Int):Option (List Int):=(AR.f k l0 (([]:List Int)) 0).bind λt725=>(if 0<(t725.length:Int) then (CJ.l0 k t725 (EU t725 0) 1) else (none))
def DH.f (k:Nat) (l0:List Int):Option (Int×Bool):=(Ar.f k l0).bind λt733=>(if t733=true then ((CJ.f k l0).bind λt734=>((Cc.f k t734).bind λt737=>(some (t737,true)))) else (some (0,false)))
mutual
def Bs.l0:Nat->List Int->Int->Int->Option (Int×Bool)
 | 0,_,_,_=>none
 | k+1,x0,x4,x5=>if x5<(shl .i64 1 (x0.length:Int)) then (Bs.l1 k x0 x4 x5 0 0) else (some (x4,true))
def Bs.l1:Nat->List Int->Int->Int->Int->Int->Option (Int×Bool)
 | 0,_,_,_,_,_=>none
 | k+1,x0,x4,x5,x6,x7=>if x7<(x0.length:Int) then (if 0<=x7 then (if (Go.bits .and .i64 (shr .i64 x5 x7) 1)=1 then (Bs.l1 k x0 x4 x5 (wrap64 (x6+(rd x0 x7))) (wrap64 (x7+1))) else (Bs.l1 k x0 x4 x5 x6 (wrap64 (x7+1)))) else (none)) else ((B4.f k x0).bind λt740=>(if (wrap64 (2*x6))=t740 then (Bs.l0 k x0 (wrap64 (x4+1)) (wrap64 (x5+2))) else (Bs.l0 k x0 x4 (wrap64 (x5+2)))))
end
def Bs.f (k:Nat) (l0:List Int):Option (Int×Bool):=(Ar.f k l0).bind λt738=>(if t738=true then (Bs.l0 k l0 0 1) else (some (0,false)))
def Cl.j0:Nat->List Int->Bool->Option (ByteArray×Bool)
 | 0,_,_=>none
 | k+1,x0,x11=>if x11=true then (some ((⟨#[]⟩:ByteArray),false)) else ((CW.f k x0).bind λt742=>(if t742=true then (some ((⟨#[99,108,111,115,101,115]⟩:ByteArray),true)) else ((Dw.f k x0).bind λt743=>((AE.f k (wrap64 (0-t743))).bind λt744=>(if 5+t744.size<=9223372036854775807 then (some ((⟨#[111,112,101,110,32]⟩:ByteArray)++t744,true)) else (none))))))
def Cl.f (k:Nat) (l0:List Int):Option (ByteArray×Bool):=(Ar.f k l0).bind λt741=>(if t741=true then (Cl.j0 k l0 (decide ((l0.length:Int)<3))) else (Cl.j0 k l0 true))
def CA.l0:Nat->List Int->ByteArray->Int->Option (ByteArray)
 | 0,_,_,_=>none
 | k+1,x0,x3,x4=>if x4<(x0.length:Int) then (if x4>0 then (if x3.size+1<=9223372036854775807 then (if 0<=x4 then ((AE.f k (rd x0 x4)).bind λt746=>(if (x3++(⟨#[32]⟩:ByteArray)).size+t746.size<=9223372036854775807 then (CA.l0 k x0 ((x3++(⟨#[32]⟩:ByteArray))++t746) (wrap64 (x4+1))) else (none))) else (none)) else (none)) else (if 0<=x4 then ((AE.f k (rd x0 x4)).bind λt748=>(if x3.size+t748.size<=9223372036854775807 then (CA.l0 k x0 (x3++t748) (wrap64 (x4+1))) else (none))) else (none))) else (some x3)
def CA.f (k:Nat) (l0:List Int):Option (ByteArray):=CA.l0 k l0 (⟨#[]⟩:ByteArray) 0
def Df.f (k:Nat) (l0:List Int):Option (ByteArray×Bool):=(Ar.f k l0).bind λt749=>(if t749=true then ((CJ.f k l0).bind λt750=>((CA.f k t750).bind λt753=>(some (t753,true)))) else (some ((⟨#[]⟩:ByteArray),false)))
def Cs.l0:Nat->List Int->Int->Int->Int->Int->Int->Option (Int×Int×Int)
 | 0,_,_,_,_,_,_=>none
 | k+1,x0,x1,x7,x8,x9,x10=>if x10<(x0.length:Int) then (if 0<=(wrap64 ((wrap64 ((x0.length:Int)-1))-x10)) then (if (Go.bits .and .i64 (shr .i64 x1 (wrap64 ((wrap64 ((x0.length:Int)-1))-x10))) 1)=1 then (if 0<=x10 then (Cs.l0 k x0 x1 (wrap64 (x7-(rd x0 x10))) (mn x8 (wrap64 (x7-(rd x0 x10)))) (mx x9 (wrap64 (x7-(rd x0 x10)))) (wrap64 (x10+1))) else (none)) else (if 0<=x10 then (Cs.l0 k x0 x1 (wrap64 (x7+(rd x0 x10))) (mn x8 (wrap64 (x7+(rd x0 x10)))) (mx x9 (wrap64 (x7+(rd x0 x10)))) (wrap64 (x10+1))) else (none))) else (none)) else (some (x7,x8,x9))
def Cs.f (k:Nat) (l0:List Int) (a1:Int):Option (Int×Int×Int):=Cs.l0 k l0 a1 0 0 0 0
def Cn.l0:Nat->List Int->List Bool->Int->Option (List Bool)
 | 0,_,_,_=>none
 | k+1,x0,x3,x4=>if x4<(shl .i64 1 (x0.length:Int)) then ((Cs.f k x0 x4).bind λbt760=>(if bt760.1>=0 then (if 0<=bt760.1 then (if bt760.1<(x3.length:Int) then (Cn.l0 k x0 (x3.set (bt760.1:Int).toNat true) (wrap64 (x4+1))) else (none)) else (none)) else (Cn.l0 k x0 x3 (wrap64 (x4+1))))) else (some x3)
def Cn.f (k:Nat) (l0:List Int):Option (List Bool):=(B4.f k l0).bind λt756=>(if 0<=(wrap64 (t756+1)) then (if (wrap64 (t756+1):Int).toNat<=281474976710656 then (Cn.l0 k l0 (List.replicate (wrap64 (t756+1):Int).toNat false) 0) else (none)) else (none))
def BX.l0:Nat->List Int->List Bool->Int->Option (List Int×Bool)
 | 0,_,_,_=>none
 | k+1,x4,x5,x6=>if x6<(x5.length:Int) then (if 0<=x6 then (if rdOf false x5 x6=true then (if x4.length<17592186044416 then (BX.l0 k (x4++[x6]) x5 (wrap64 (x6+1))) else (none)) else (BX.l0 k x4 x5 (wrap64 (x6+1)))) else (none)) else (some (x4,true))
def BX.f (k:Nat) (l0:List Int):Option (List Int×Bool):=(some (([]:List Int):List Int)).bind λy764=>((Bj.f k l0).bind λt767=>(if t767=true then ((Cn.f k l0).bind λt768=>(BX.l0 k y764 t768 0)) else (some (y764,false))))
def Ek.f (k:Nat) (l0:List Int):Option (Int×Bool):=(BX.f k l0).bind λbt775=>(if bt775.2=true then (if 0<(bt775.1.length:Int) then (some (rd bt775.1 0,true)) else (none)) else (some (0,false)))
def Ci.l0:Nat->List Int->Int->Int->Option (Int×Bool)
 | 0,_,_,_=>none
 | k+1,x0,x4,x5=>if x5<(shl .i64 1 (x0.length:Int)) then ((Cs.f k x0 x5).bind λbt781=>(if bt781.1=0 then (Ci.l0 k x0 (wrap64 (x4+1)) (wrap64 (x5+1))) else (Ci.l0 k x0 x4 (wrap64 (x5+1))))) else (some (x4,true))
def Ci.f (k:Nat) (l0:List Int):Option (Int×Bool):=(Bj.f k l0).bind λt780=>(if t780=true then (Ci.l0 k l0 0 0) else (some (0,false)))
def Ch.l0:Nat->List Int->Int->Int->Int->Option (Int×Int)
 | 0,_,_,_,_=>none
 | k+1,x0,x4,x5,x6=>if x6<(shl .i64 1 (x0.length:Int)) then ((Cs.f k x0 x6).bind λbt784=>(if x6=0 then (Ch.l0 k x0 (wrap64 (bt784.2.2-bt784.2.1)) x6 (wrap64 (x6+1))) else (if (wrap64 (bt784.2.2-bt784.2.1))<x4 then (Ch.l0 k x0 (wrap64 (bt784.2.2-bt784.2.1)) x6 (wrap64 (x6+1))) else (Ch.l0 k x0 x4 x5 (wrap64 (x6+1)))))) else (some (x4,x5))
def Ch.f (k:Nat) (l0:List Int):Option (Int×Int):=Ch.l0 k l0 0 0 0
def El.f (k:Nat) (l0:List Int):Option (Int×Bool):=(Bj.f k l0).bind λt787=>(if t787=true then ((Ch.f k l0).bind λbt788=>(some (bt788.1,true))) else (some (0,false)))
mutual
def Aw.l0:Nat->List Int->Int->List Bool->Int->Option (Bool)
 | 0,_,_,_,_=>none
 | k+1,x0,x1,x5,x6=>if x6<=x1 then (if 0<=x6 then (if x6<(x5.length:Int) then (Aw.l0 k x0 x1 (x5.set (x6:Int).toNat true) (wrap64 (x6+1))) else (none)) else (none)) else (Aw.l1 k x0 x1 x5 0)
def Aw.l1:Nat->List Int->Int->List Bool->Int->Option (Bool)
 | 0,_,_,_,_=>none
 | k+1,x0,x1,x5,x7=>if x7<(x0.length:Int) then (if 0<=(wrap64 (x1+1)) then (if (wrap64 (x1+1):Int).toNat<=281474976710656 then (Aw.l2 k x0 x1 x5 x7 (List.replicate (wrap64 (x1+1):Int).toNat false) 0) else (none)) else (none)) else (Aw.l3 k x1 x5 0)
def Aw.l2:Nat->List Int->Int->List Bool->Int->List Bool->Int->Option (Bool)
 | 0,_,_,_,_,_,_=>none
 | k+1,x0,x1,x5,x7,x8,x9=>if x9<=x1 then (if 0<=x9 then (if x9<(x5.length:Int) then (if rdOf false x5 x9=true then (if 0<=x7 then (if x7<(x0.length:Int) then (Aw.j3 k x0 x1 x5 x7 x8 x9 (decide ((wrap64 (x9+(rd x0 x7)))<=x1))) else (none)) else (none)) else (Aw.j3 k x0 x1 x5 x7 x8 x9 false)) else (none)) else (none)) else (Aw.l1 k x0 x1 x8 (wrap64 (x7+1)))
def Aw.j3:Nat->List Int->Int->List Bool->Int->List Bool->Int->Bool->Option (Bool)
 | 0,_,_,_,_,_,_,_=>none
 | k+1,x0,x1,x5,x7,x8,x9,x49=>if x49=true then (if 0<=x7 then (if x7<(x0.length:Int) then (if 0<=(wrap64 (x9+(rd x0 x7))) then (if (wrap64 (x9+(rd x0 x7)))<(x8.length:Int) then ((some (x8.set ((wrap64 (x9+(rd x0 x7))):Int).toNat true:List Bool)).bind λy800=>(if 0<=x9 then (if x9<(x5.length:Int) then (if rdOf false x5 x9=true then (if x9>=(rd x0 x7) then (if 0<=(wrap64 (x9-(rd x0 x7))) then (if (wrap64 (x9-(rd x0 x7)))<(x8.length:Int) then (Aw.l2 k x0 x1 x5 x7 (y800.set ((wrap64 (x9-(rd x0 x7))):Int).toNat true) (wrap64 (x9+1))) else (none)) else (none)) else (Aw.l2 k x0 x1 x5 x7 y800 (wrap64 (x9+1)))) else (Aw.l2 k x0 x1 x5 x7 y800 (wrap64 (x9+1)))) else (none)) else (none))) else (none)) else (none)) else (none)) else (none)) else (if 0<=x9 then (if x9<(x5.length:Int) then (if rdOf false x5 x9=true then (if 0<=x7 then (if x7<(x0.length:Int) then (if x9>=(rd x0 x7) then (if 0<=(wrap64 (x9-(rd x0 x7))) then (if (wrap64 (x9-(rd x0 x7)))<(x8.length:Int) then (Aw.l2 k x0 x1 x5 x7 (x8.set ((wrap64 (x9-(rd x0 x7))):Int).toNat true) (wrap64 (x9+1))) else (none)) else (none)) else (Aw.l2 k x0 x1 x5 x7 x8 (wrap64 (x9+1)))) else (none)) else (none)) else (Aw.l2 k x0 x1 x5 x7 x8 (wrap64 (x9+1)))) else (none)) else (none))
def Aw.l3:Nat->Int->List Bool->Int->Option (Bool)
 | 0,_,_,_=>none
 | k+1,x1,x5,x10=>if x10<=x1 then (if 0<=x10 then (if x10<(x5.length:Int) then (if rdOf false x5 x10=true then (some true) else (Aw.l3 k x1 x5 (wrap64 (x10+1)))) else (none)) else (none)) else (some false)
end
def Aw.f (k:Nat) (l0:List Int) (a1:Int):Option (Bool):=if 0<=(wrap64 (a1+1)) then (if (wrap64 (a1+1):Int).toNat<=281474976710656 then (Aw.l0 k l0 a1 (List.replicate (wrap64 (a1+1):Int).toNat false) 0) else (none)) else (none)
def Cx.l0:Nat->List Int->Int->Option (Int×Bool)
 | 0,_,_=>none
 | k+1,x0,x4=>(Aw.f k x0 x4).bind λt811=>(if t811=true then (some (x4,true)) else (Cx.l0 k x0 (wrap64 (x4+1))))
def Cx.f (k:Nat) (l0:List Int):Option (Int×Bool):=(Bj.f k l0).bind λt810=>(if t810=true then (Cx.l0 k l0 0) else (some (0,false)))
mutual
def AU.l0:Nat->List Int->Int->Int->Option (Int×Bool)
 | 0,_,_,_=>none
 | k+1,x0,x4,x5=>if x5<(x0.length:Int) then (if 0<=x5 then (AU.l0 k x0 (mx x4 (rd x0 x5)) (wrap64 (x5+1))) else (none)) else (AU.l1 k x0 x4 0 0 0 0)
def AU.l1:Nat->List Int->Int->Int->Int->Int->Int->Option (Int×Bool)
 | 0,_,_,_,_,_,_=>none
 | k+1,x0,x4,x6,x7,x8,x9=>if x9<(x0.length:Int) then (if 0<=x9 then (if (wrap64 (x6+(rd x0 x9)))<=x4 then (AU.l1 k x0 x4 (wrap64 (x6+(rd x0 x9))) (mn x7 (wrap64 (x6+(rd x0 x9)))) (mx x8 (wrap64 (x6+(rd x0 x9)))) (wrap64 (x9+1))) else (AU.l1 k x0 x4 (wrap64 (x6-(rd x0 x9))) (mn x7 (wrap64 (x6-(rd x0 x9)))) (mx x8 (wrap64 (x6-(rd x0 x9)))) (wrap64 (x9+1)))) else (none)) else (some (wrap64 (x8-x7),true))
end
def AU.f (k:Nat) (l0:List Int):Option (Int×Bool):=(Bj.f k l0).bind λt812=>(if t812=true then (AU.l0 k l0 0 0) else (some (0,false)))
def Cb.l0:Nat->List Int->Int->List Int->Int->Option (ByteArray×Bool)
 | 0,_,_,_,_=>none
 | k+1,x0,x5,x6,x7=>if x7<(x0.length:Int) then (if 0<=(wrap64 ((wrap64 ((x0.length:Int)-1))-x7)) then (if 0<=(Go.bits .and .i64 (shr .i64 x5 (wrap64 ((wrap64 ((x0.length:Int)-1))-x7))) 1) then (if (Go.bits .and .i64 (shr .i64 x5 (wrap64 ((wrap64 ((x0.length:Int)-1))-x7))) 1)<2 then (if x6.length<140737488355328 then (Cb.l0 k x0 x5 (x6++[bt (⟨#[114,108]⟩:ByteArray) (Go.bits .and .i64 (shr .i64 x5 (wrap64 ((wrap64 ((x0.length:Int)-1))-x7))) 1)]) (wrap64 (x7+1))) else (none)) else (none)) else (none)) else (none)) else (some (strOfNums x6,true))
def Cb.f (k:Nat) (l0:List Int):Option (ByteArray×Bool):=(Bj.f k l0).bind λt817=>(if t817=true then ((Ch.f k l0).bind λbt818=>(Cb.l0 k l0 bt818.2 (([]:List Int)) 0)) else (some ((⟨#[]⟩:ByteArray),false)))
def ER.f (k:Nat) (l0:List Int) (a1:ByteArray):Option (ByteArray):=if a1.toList=([101,110,100,115]:List UInt8) then ((BX.f k l0).bind λbt826=>((BG.f k bt826.1 bt826.2).bind λt830=>(some t830))) else (if a1.toList=([110,101,97,114]:List UInt8) then ((Ek.f k l0).bind λbt831=>((Bq.f k bt831.1 bt831.2).bind λt833=>(some t833))) else (if a1.toList=([102,111,108,100,115]:List UInt8) then ((Ci.f k l0).bind λbt834=>((Bq.f k bt834.1 bt834.2).bind λt836=>(some t836))) else (if a1.toList=([115,112,97,110]:List UInt8) then ((El.f k l0).bind λbt837=>((Bq.f k bt837.1 bt837.2).bind λt839=>(some t839))) else (if a1.toList=([99,97,115,101]:List UInt8) then ((Cx.f k l0).bind λbt840=>((Bq.f k bt840.1 bt840.2).bind λt842=>(some t842))) else (if a1.toList=([103,114,101,101,100,121]:List UInt8) then ((AU.f k l0).bind λbt843=>((Bq.f k bt843.1 bt843.2).bind λt845=>(some t845))) else (if a1.toList=([98,101,115,116]:List UInt8) then ((Cb.f k l0).bind λbt846=>((CT.f bt846.1 bt846.2).bind λt848=>(some t848))) else (some (⟨#[119,104,97,116,10]⟩:ByteArray))))))))
def Ef.f (k:Nat) (l0:List Int) (a1:ByteArray):Option (ByteArray):=if a1.toList=([115,104,111,119]:List UInt8) then ((BG.f k l0 true).bind λt849=>(some t849)) else (if a1.toList=([115,117,109]:List UInt8) then ((En.f k l0).bind λbt850=>((Bq.f k bt850.1 bt850.2).bind λt852=>(some t852))) else (if a1.toList=([109,97,110,121]:List UInt8) then ((DP.f k l0).bind λbt853=>((Bq.f k bt853.1 bt853.2).bind λt855=>(some t855))) else (if a1.toList=([119,105,100,101,115,116]:List UInt8) then ((Bg.f k l0).bind λbt856=>((Bq.f k bt856.1 bt856.2).bind λt858=>(some t858))) else (if a1.toList=([102,114,101,101]:List UInt8) then ((Ar.f k l0).bind λt859=>(if t859=true then ((DO.f k l0).bind λt860=>(if t860=true then (some (⟨#[121,101,115,10]⟩:ByteArray)) else (some (⟨#[110,111,116,10]⟩:ByteArray)))) else (some (⟨#[110,111,10]⟩:ByteArray)))) else (if a1.toList=([107,105,110,100]:List UInt8) then ((EM.f k l0).bind λbt861=>((CT.f bt861.1 bt861.2).bind λt863=>(some t863))) else (if a1.toList=([97,114,101,97]:List UInt8) then ((EK.f k l0).bind λbt864=>((Bq.f k bt864.1 bt864.2).bind λt866=>(some t866))) else (if a1.toList=([104,97,108,102]:List UInt8) then ((EL.f k l0).bind λbt867=>((BG.f k bt867.1 bt867.2).bind λt871=>(some t871))) else (if a1.toList=([103,97,112]:List UInt8) then ((EJ.f k l0).bind λbt872=>((Bq.f k bt872.1 bt872.2).bind λt874=>(some t874))) else (if a1.toList=([109,111,115,116]:List UInt8) then ((Em.f k l0).bind λbt875=>((Bq.f k bt875.1 bt875.2).bind λt877=>(some t877))) else (if a1.toList=([112,97,114,116,115]:List UInt8) then ((D9.f k l0).bind λbt878=>((BG.f k bt878.1 bt878.2).bind λt882=>(some t882))) else (if a1.toList=([102,105,120]:List UInt8) then ((EI.f k l0).bind λbt883=>((Bq.f k bt883.1 bt883.2).bind λt885=>(some t885))) else (if a1.toList=([114,101,97,99,104]:List UInt8) then ((DT.f k l0).bind λbt886=>((BG.f k (([bt886.1,bt886.2.1]:List Int)) bt886.2.2).bind λt892=>(some t892))) else (if a1.toList=([104,111,108,100]:List UInt8) then ((D8.f k l0).bind λbt893=>((Bq.f k bt893.1 bt893.2).bind λt895=>(some t895))) else (if a1.toList=([119,97,121,115]:List UInt8) then ((D0.f k l0).bind λbt896=>((Bq.f k bt896.1 bt896.2).bind λt898=>(some t898))) else (if a1.toList=([116,104,114,101,101,115]:List UInt8) then ((DH.f k l0).bind λbt899=>((Bq.f k bt899.1 bt899.2).bind λt901=>(some t901))) else (if a1.toList=([116,119,111]:List UInt8) then ((Bs.f k l0).bind λbt902=>((Bq.f k bt902.1 bt902.2).bind λt904=>(some t904))) else (if a1.toList=([112,114,111,111,102]:List UInt8) then ((Cl.f k l0).bind λbt905=>((CT.f bt905.1 bt905.2).bind λt907=>(some t907))) else (if a1.toList=([112,114,111,118,101,100]:List UInt8) then ((Df.f k l0).bind λbt908=>((CT.f bt908.1 bt908.2).bind λt910=>(some t910))) else ((ER.f k l0 a1).bind λt911=>(some t911))))))))))))))))))))
def BR.l0:Nat->List (List Int)->ByteArray->Int->Option (ByteArray)
 | 0,_,_,_=>none
 | k+1,x0,x5,x6=>if x6<(x0.length:Int) then (if x6>0 then (if x5.size+1<=9223372036854775807 then (if 0<=x6 then ((Cq.f k (EU x0 x6) (⟨#[44]⟩:ByteArray)).bind λt913=>(if (x5++(⟨#[32]⟩:ByteArray)).size+t913.size<=9223372036854775807 then (BR.l0 k x0 ((x5++(⟨#[32]⟩:ByteArray))++t913) (wrap64 (x6+1))) else (none))) else (none)) else (none)) else (if 0<=x6 then ((Cq.f k (EU x0 x6) (⟨#[44]⟩:ByteArray)).bind λt915=>(if x5.size+t915.size<=9223372036854775807 then (BR.l0 k x0 (x5++t915) (wrap64 (x6+1))) else (none))) else (none))) else (if x5.toList=([]:List UInt8) then (if 1+1<=9223372036854775807 then (some ((⟨#[46]⟩:ByteArray)++(⟨#[10]⟩:ByteArray))) else (none)) else (if x5.size+1<=9223372036854775807 then (some (x5++(⟨#[10]⟩:ByteArray))) else (none)))
def BR.f (k:Nat) (l0:List (List Int)) (a1:Bool):Option (ByteArray):=if a1=true then (BR.l0 k l0 (⟨#[]⟩:ByteArray) 0) else (some (⟨#[110,111,10]⟩:ByteArray))
mutual
def Bd.l0:Nat->Int->List (List Int)->Int->Option ((List (List Int)))
 | 0,_,_,_=>none
 | k+1,x0,x3,x4=>if x4<=x0 then (Bd.l1 k x0 x3 x4 x4) else (some x3)
def Bd.l1:Nat->Int->List (List Int)->Int->Int->Option ((List (List Int)))
 | 0,_,_,_,_=>none
 | k+1,x0,x3,x4,x5=>if (wrap64 (x4+x5))<=x0 then (if (wrap64 ((wrap64 (x0-x4))-x5))>=x5 then ((Ca.f x4 x5 (wrap64 ((wrap64 (x0-x4))-x5))).bind λt919=>(if t919=true then (if x3.length<5864062014805 then (Bd.l1 k x0 (x3++[(([x4,x5,wrap64 ((wrap64 (x0-x4))-x5)]:List Int))]) x4 (wrap64 (x5+1))) else (none)) else (Bd.l1 k x0 x3 x4 (wrap64 (x5+1))))) else (Bd.l1 k x0 x3 x4 (wrap64 (x5+1)))) else (Bd.l0 k x0 x3 (wrap64 (x4+1)))
end
def Bd.f (k:Nat) (a0:Int):Option ((List (List Int))):=Bd.l0 k a0 (([]:List (List Int))) 1
def CX.f (k:Nat) (a0:Int):Option ((List (List Int))×Bool):=(Cu.f a0 1 60).bind λt926=>(if t926=true then ((Bd.f k a0).bind λt927=>(some (t927,true))) else (some ((([]:List (List Int))),false)))
def DK.f (a0:Int):Option (Int×Bool):=(Cu.f a0 1 60).bind λt933=>(if t933=true then (if (Int.tmod a0 2)=1 then (some (wrap64 (Int.tdiv (wrap64 ((wrap64 ((wrap64 (a0+3))*(wrap64 (a0+3))))+24)) 48),true)) else (some (wrap64 (Int.tdiv (wrap64 ((wrap64 (a0*a0))+24)) 48),true))) else (some (0,false)))
def BQ.l0:Nat->Int->Int->Int->Option (Int)
 | 0,_,_,_=>none
 | k+1,x0,x3,x4=>if x3<x4 then (if (wrap64 ((wrap64 (Int.tdiv (wrap64 ((wrap64 (x3+x4))+1)) 2))*(wrap64 (Int.tdiv (wrap64 ((wrap64 (x3+x4))+1)) 2))))<=x0 then (BQ.l0 k x0 (wrap64 (Int.tdiv (wrap64 ((wrap64 (x3+x4))+1)) 2)) x4) else (BQ.l0 k x0 x3 (wrap64 ((wrap64 (Int.tdiv (wrap64 ((wrap64 (x3+x4))+1)) 2))-1)))) else (some x3)
def BQ.f (k:Nat) (a0:Int):Option (Int):=BQ.l0 k a0 0 1000000
def AW.l0:Nat->List (List Int)->List (List Int)->Int->Option ((List (List Int))×Bool)
 | 0,_,_,_=>none
 | k+1,x4,x5,x6=>if x6<(x5.length:Int) then (if 0<=x6 then (if 0<((EU x5 x6).length:Int) then (if 1<((EU x5 x6).length:Int) then (if 2<((EU x5 x6).length:Int) then ((Ex.f (rd (EU x5 x6) 0) (rd (EU x5 x6) 1) (rd (EU x5 x6) 2)).bind λt947=>((BQ.f k t947).bind λt948=>(if (wrap64 (t948*t948))=t947 then (if (Int.tmod t948 4)=0 then (if x4.length<5864062014805 then (AW.l0 k (x4++[EU x5 x6]) x5 (wrap64 (x6+1))) else (none)) else (AW.l0 k x4 x5 (wrap64 (x6+1)))) else (AW.l0 k x4 x5 (wrap64 (x6+1)))))) else (none)) else (none)) else (none)) else (none)) else (some (x4,true))
def AW.f (k:Nat) (a0:Int):Option ((List (List Int))×Bool):=(some (([]:List (List Int)):List (List Int))).bind λy934=>((Cu.f a0 1 60).bind λt937=>(if t937=true then ((Bd.f k a0).bind λt938=>(AW.l0 k y934 t938 0)) else (some (y934,false))))
def EY.f (a0:Int) (a1:Int):Option (Bool):=(Cu.f a0 3 6).bind λt953=>(if t953=true then ((Cu.f a1 1 30).bind λt954=>(some t954)) else (some false))
mutual
def Bx.l0:Nat->Int->Int->List (List Int)->Int->Option ((List (List Int)))
 | 0,_,_,_,_=>none
 | k+1,x0,x1,x7,x8=>if (wrap64 (x8*x0))<=x1 then ((Bx.f k (wrap64 (x0-1)) (wrap64 (x1-x8)) x8).bind λt967=>(Bx.l1 k x0 x1 x7 x8 t967 0)) else (some x7)
def Bx.l1:Nat->Int->Int->List (List Int)->Int->List (List Int)->Int->Option ((List (List Int)))
 | 0,_,_,_,_,_,_=>none
 | k+1,x0,x1,x7,x8,x9,x10=>if x10<(x9.length:Int) then ((some (([x8]:List Int):List Int)).bind λy970=>(if 0<=x10 then (if y970.length+(EU x9 x10).length<17592186044416 then (if x7.length<5864062014805 then (Bx.l1 k x0 x1 (x7++[(y970++(EU x9 x10))]) x8 x9 (wrap64 (x10+1))) else (none)) else (none)) else (none))) else (Bx.l0 k x0 x1 x7 (wrap64 (x8+1)))
def Bx.f:Nat->Int->Int->Int->Option ((List (List Int)))
 | 0,_,_,_=>none
 | k+1,a0,a1,a2=>if a0=0 then (if a1=0 then (some (([(([]:List Int))]:List (List Int)))) else (some (([]:List (List Int))))) else (Bx.l0 k a0 a1 (([]:List (List Int))) a2)
end
def Cf.l0:Nat->Int->List (List Int)->Int->Option (Int×Bool)
 | 0,_,_,_=>none
 | k+1,x6,x7,x8=>if x8<(x7.length:Int) then (if 0<=x8 then ((CW.f k (EU x7 x8)).bind λt985=>(if t985=true then (Cf.l0 k (wrap64 (x6+1)) x7 (wrap64 (x8+1))) else (Cf.l0 k x6 x7 (wrap64 (x8+1))))) else (none)) else (some (x6,true))
def Cf.f (k:Nat) (a0:Int) (a1:Int):Option (Int×Bool):=(EY.f a0 a1).bind λt980=>(if t980=true then ((Bx.f k a0 a1 1).bind λt981=>(Cf.l0 k 0 t981 0)) else (some (0,false)))
def Fs.f (k:Nat) (l0:List Int) (a1:Int):Option (Bool):=(Dx.f k l0).bind λbt986=>(if bt986.1<=a1 then (some (decide (a1<=bt986.2))) else (some false))
mutual
def Bc.j0:Nat->List Int->Int->Bool->Option (Int×Bool)
 | 0,_,_,_=>none
 | k+1,x0,x1,x14=>if x14=true then (some (0,false)) else (Bc.l0 k x0 x1 (x0.length:Int))
def Bc.l0:Nat->List Int->Int->Int->Option (Int×Bool)
 | 0,_,_,_=>none
 | k+1,x0,x1,x6=>if x6>0 then (if 0<=x6 then (if x6<=(x0.length:Int) then ((Fs.f k (x0.take (x6:Int).toNat) x1).bind λt991=>(if t991=true then (some (x6,true)) else (Bc.l0 k x0 x1 (wrap64 (x6-1))))) else (none)) else (none)) else (some (0,false))
end
def Bc.f (k:Nat) (l0:List Int) (a1:Int):Option (Int×Bool):=(Ar.f k l0).bind λt988=>(if t988=true then ((Cu.f a1 0 1000).bind λt989=>(Bc.j0 k l0 a1 (!t989))) else (Bc.j0 k l0 a1 true))
def CN.l0:Nat->List Int->Int->Option (Bool)
 | 0,_,_=>none
 | k+1,x0,x3=>if x3<(x0.length:Int) then (if 0<=x3 then ((Cu.f (rd x0 x3) 1 12).bind λt993=>(if t993=true then (CN.l0 k x0 (wrap64 (x3+1))) else (some false))) else (none)) else (some ((x0.length:Int)==6))
def CN.f (k:Nat) (l0:List Int):Option (Bool):=CN.l0 k l0 0
def D1.f (l0:List Int):Option (Int):=if 0<(l0.length:Int) then (if 1<(l0.length:Int) then (if 2<(l0.length:Int) then (if 3<(l0.length:Int) then (if 4<(l0.length:Int) then (if 5<(l0.length:Int) then (some (wrap64 ((wrap64 ((wrap64 ((wrap64 ((wrap64 ((wrap64 ((wrap64 (4*(wrap64 ((rd l0 0)*(rd l0 0)))))*(wrap64 ((rd l0 1)*(rd l0 1)))))*(wrap64 ((rd l0 2)*(rd l0 2)))))+(wrap64 ((wrap64 ((wrap64 ((wrap64 ((wrap64 ((rd l0 0)*(rd l0 0)))+(wrap64 ((rd l0 1)*(rd l0 1)))))-(wrap64 ((rd l0 3)*(rd l0 3)))))*(wrap64 ((wrap64 ((wrap64 ((rd l0 0)*(rd l0 0)))+(wrap64 ((rd l0 2)*(rd l0 2)))))-(wrap64 ((rd l0 4)*(rd l0 4)))))))*(wrap64 ((wrap64 ((wrap64 ((rd l0 1)*(rd l0 1)))+(wrap64 ((rd l0 2)*(rd l0 2)))))-(wrap64 ((rd l0 5)*(rd l0 5)))))))))-(wrap64 ((wrap64 ((wrap64 ((rd l0 0)*(rd l0 0)))*(wrap64 ((wrap64 ((wrap64 ((rd l0 1)*(rd l0 1)))+(wrap64 ((rd l0 2)*(rd l0 2)))))-(wrap64 ((rd l0 5)*(rd l0 5)))))))*(wrap64 ((wrap64 ((wrap64 ((rd l0 1)*(rd l0 1)))+(wrap64 ((rd l0 2)*(rd l0 2)))))-(wrap64 ((rd l0 5)*(rd l0 5)))))))))-(wrap64 ((wrap64 ((wrap64 ((rd l0 1)*(rd l0 1)))*(wrap64 ((wrap64 ((wrap64 ((rd l0 0)*(rd l0 0)))+(wrap64 ((rd l0 2)*(rd l0 2)))))-(wrap64 ((rd l0 4)*(rd l0 4)))))))*(wrap64 ((wrap64 ((wrap64 ((rd l0 0)*(rd l0 0)))+(wrap64 ((rd l0 2)*(rd l0 2)))))-(wrap64 ((rd l0 4)*(rd l0 4)))))))))-(wrap64 ((wrap64 ((wrap64 ((rd l0 2)*(rd l0 2)))*(wrap64 ((wrap64 ((wrap64 ((rd l0 0)*(rd l0 0)))+(wrap64 ((rd l0 1)*(rd l0 1)))))-(wrap64 ((rd l0 3)*(rd l0 3)))))))*(wrap64 ((wrap64 ((wrap64 ((rd l0 0)*(rd l0 0)))+(wrap64 ((rd l0 1)*(rd l0 1)))))-(wrap64 ((rd l0 3)*(rd l0 3)))))))))) else (none)) else (none)) else (none)) else (none)) else (none)) else (none)
def Dg.f (k:Nat) (l0:List Int):Option (Int×Bool):=(CN.f k l0).bind λt1006=>(if t1006=true then ((D1.f l0).bind λt1007=>(some (t1007,true))) else (some (0,false)))
def Fy.f (a0:Int) (a1:Int):Option (Int):=if (mn a0 a1)=0 then (some (wrap64 ((mx a0 a1)-1))) else (if (mn a0 a1)=1 then (some (wrap64 ((mx a0 a1)+1))) else (some 5))
mutual
def CC.l0:Nat->List Int->List Int->List Int->Int->Option (List Int)
 | 0,_,_,_,_=>none
 | k+1,x0,x1,x5,x6=>if x6<4 then (CC.l1 k x0 x1 x5 x6 (wrap64 (x6+1))) else (some x5)
def CC.l1:Nat->List Int->List Int->List Int->Int->Int->Option (List Int)
 | 0,_,_,_,_,_=>none
 | k+1,x0,x1,x5,x6,x7=>if x7<4 then (if 0<=x6 then (if x6<(x1.length:Int) then (if 0<=x7 then (if x7<(x1.length:Int) then ((Fy.f (rd x1 x6) (rd x1 x7)).bind λt1013=>(if 0<=t1013 then (if t1013<(x0.length:Int) then (if x5.length<17592186044416 then (CC.l1 k x0 x1 (x5++[rd x0 t1013]) x6 (wrap64 (x7+1))) else (none)) else (none)) else (none))) else (none)) else (none)) else (none)) else (none)) else (CC.l0 k x0 x1 x5 (wrap64 (x6+1)))
end
def CC.f (k:Nat) (l0:List Int) (l1:List Int):Option (List Int):=CC.l0 k l0 l1 (([]:List Int)) 0
def Dr.l0:Nat->List Int->List Int->Int->Option (Bool)
 | 0,_,_,_=>none
 | k+1,x0,x1,x5=>if x5<(x0.length:Int) then (if 0<=x5 then (if x5<(x1.length:Int) then (if (rd x0 x5)=(rd x1 x5) then (Dr.l0 k x0 x1 (wrap64 (x5+1))) else (some (decide ((rd x0 x5)<(rd x1 x5))))) else (none)) else (none)) else (some false)
def Dr.f (k:Nat) (l0:List Int) (l1:List Int):Option (Bool):=Dr.l0 k l0 l1 0
mutual
def AC.l0:Nat->List Int->List Int->Int->Option (List Int)
 | 0,_,_,_=>none
 | k+1,x0,x3,x4=>if x4<4 then (AC.l1 k x0 x3 x4 0) else (some x3)
def AC.l1:Nat->List Int->List Int->Int->Int->Option (List Int)
 | 0,_,_,_,_=>none
 | k+1,x0,x3,x4,x5=>if x5<4 then (AC.l2 k x0 x3 x4 x5 0) else (AC.l0 k x0 x3 (wrap64 (x4+1)))
def AC.l2:Nat->List Int->List Int->Int->Int->Int->Option (List Int)
 | 0,_,_,_,_,_=>none
 | k+1,x0,x3,x4,x5,x6=>if x6<4 then (if x4=x5 then (AC.j3 k x0 x3 x4 x5 x6 (wrap64 ((wrap64 ((wrap64 (6-x4))-x5))-x6)) true) else (if x4=x6 then (AC.j3 k x0 x3 x4 x5 x6 (wrap64 ((wrap64 ((wrap64 (6-x4))-x5))-x6)) true) else (AC.j3 k x0 x3 x4 x5 x6 (wrap64 ((wrap64 ((wrap64 (6-x4))-x5))-x6)) (x5==x6)))) else (AC.l1 k x0 x3 x4 (wrap64 (x5+1)))
def AC.j3:Nat->List Int->List Int->Int->Int->Int->Int->Bool->Option (List Int)
 | 0,_,_,_,_,_,_,_=>none
 | k+1,x0,x3,x4,x5,x6,x7,x42=>if x42=true then (AC.l2 k x0 x3 x4 x5 (wrap64 (x6+1))) else ((CC.f k x0 (([x4,x5,x6,x7]:List Int))).bind λt1031=>((Dr.f k t1031 x3).bind λt1034=>(if t1034=true then (AC.l2 k x0 t1031 x4 x5 (wrap64 (x6+1))) else (AC.l2 k x0 x3 x4 x5 (wrap64 (x6+1))))))
end
def AC.f (k:Nat) (l0:List Int):Option (List Int):=(some (([]:List Int):List Int)).bind λy1022=>(if y1022.length+l0.length<17592186044416 then (AC.l0 k l0 (y1022++l0) 0) else (none))
def Do.f (k:Nat) (l0:List Int):Option (List Int×Bool):=(CN.f k l0).bind λt1035=>(if t1035=true then ((AC.f k l0).bind λt1036=>(some (t1036,true))) else (some ((([]:List Int)),false)))
def An.f:Nat->ByteArray->Int->Option (Int×List S150×Int)
 | 0,_,_=>none
 | k+1,s,p=>if p>=(s.size:Int) then some (110,[],0) else (if 0<=p then (if p<(s.size:Int) then
   (if bt s p=110 then some (bt s p,[],wrap64 (p+1)) else (if bt s p=101 then some (bt s p,[],wrap64 (p+1)) else (if bt s p=115 then some (bt s p,[],wrap64 (p+1)) else (if bt s p=119 then some (bt s p,[],wrap64 (p+1)) else
   (if bt s p=45 then ((An.f k s (wrap64 (p+1))).bind λx=>some (bt s p,[⟨x.1,x.2.1⟩],x.2.2)) else (if bt s p=64 then ((An.f k s (wrap64 (p+1))).bind λx=>some (bt s p,[⟨x.1,x.2.1⟩],x.2.2)) else
   (if bt s p>=50 then (if bt s p<=57 then ((An.f k s (wrap64 (p+1))).bind λx=>some (bt s p,[⟨x.1,x.2.1⟩],x.2.2)) else (if ¬ bt s p=40 then some (110,[],0) else none)) else
   (if bt s p=40 then ((An.f k s (wrap64 (p+1))).bind λx=>(if x.2.2=0 then some (110,[],0) else (if x.2.2>=(s.size:Int) then some (110,[],0) else (if 0<=x.2.2 then (if x.2.2<(s.size:Int) then (if bt s x.2.2=43 then
    ((An.f k s (wrap64 (x.2.2+1))).bind λy=>(if y.2.2=0 then some (110,[],0) else (if y.2.2>=(s.size:Int) then some (110,[],0) else (if 0<=y.2.2 then (if y.2.2<(s.size:Int) then (if bt s y.2.2=41 then
     some (43,[⟨x.1,x.2.1⟩,⟨y.1,y.2.1⟩],wrap64 (y.2.2+1)) else some (110,[],0)) else none) else none)))) else some (110,[],0)) else none) else none)))) else some (110,[],0))))))))) else none) else none)
def Eb.f (k:Nat) (a0:ByteArray):Option (Int×(List (S150))×Bool):=if (a0.size:Int)>60 then (some (110,(([]:List (S150))),false)) else ((An.f k a0 0).bind λbt1046=>(if bt1046.2.2>0 then (some (bt1046.1,bt1046.2.1,(bt1046.2.2==(a0.size:Int)))) else (some (bt1046.1,bt1046.2.1,false))))
mutual
def B6.j0:Nat->Bool->Int->List (S150)->Option (Int)
 | 0,_,_,_=>none
 | k+1,x19,x1053000,x1053001=>if x19=true then (if 0<(x1053001.length:Int) then ((B6.f k ((BO x1053001 0).f0) ((BO x1053001 0).f1)).bind λt1058=>(some t1058)) else (none)) else (if x1053000>=50 then (if x1053000<=57 then (if 0<(x1053001.length:Int) then ((B6.f k ((BO x1053001 0).f0) ((BO x1053001 0).f1)).bind λt1060=>(some (mn 1000 (wrap64 (((x1053000-48) % 256)*t1060))))) else (none)) else (some 1)) else (some 1))
def B6.f:Nat->Int->List (S150)->Option (Int)
 | 0,_,_=>none
 | k+1,a0_0,l0_1=>if a0_0=43 then (if 0<(l0_1.length:Int) then ((B6.f k ((BO l0_1 0).f0) ((BO l0_1 0).f1)).bind λt1054=>(if 1<(l0_1.length:Int) then ((B6.f k ((BO l0_1 1).f0) ((BO l0_1 1).f1)).bind λt1056=>(some (mn 1000 (wrap64 (t1054+t1056))))) else (none))) else (none)) else (if a0_0=45 then (B6.j0 k true a0_0 l0_1) else (B6.j0 k (a0_0==64) a0_0 l0_1))
end
def De.f (k:Nat) (a0:ByteArray):Option (Int×(List (S150))×Bool):=(Eb.f k a0).bind λbt1062=>(if bt1062.2.2=true then ((B6.f k bt1062.1 bt1062.2.1).bind λt1068=>(some (bt1062.1,bt1062.2.1,decide (t1068<=200)))) else (some (bt1062.1,bt1062.2.1,false)))
def AX.l0:Nat->Int->Int->Int->Option (Int)
 | 0,_,_,_=>none
 | k+1,x0,x1,x5=>if x5<x1 then (if x0=101 then (AX.l0 k 110 x1 (wrap64 (x5+1))) else (if x0=110 then (AX.l0 k 119 x1 (wrap64 (x5+1))) else (if x0=119 then (AX.l0 k 115 x1 (wrap64 (x5+1))) else (AX.l0 k 101 x1 (wrap64 (x5+1)))))) else (some x0)
def AX.f (k:Nat) (a0:Int) (a1:Int):Option (Int):=AX.l0 k a0 a1 0
mutual
def Az.j0:Nat->Bool->Int->List (S150)->Option (ByteArray)
 | 0,_,_,_=>none
 | k+1,x24,x1070000,x1070001=>if x24=true then (if 0<(x1070001.length:Int) then ((Az.f k ((BO x1070001 0).f0) ((BO x1070001 0).f1)).bind λt1075=>(Az.l0 k t1075 (([]:List Int)) 0 x1070000 x1070001)) else (none)) else (if x1070000>=50 then (Az.j2 k (decide (x1070000<=57)) x1070000 x1070001) else (Az.j2 k false x1070000 x1070001))
def Az.l0:Nat->ByteArray->List Int->Int->Int->List (S150)->Option (ByteArray)
 | 0,_,_,_,_,_=>none
 | k+1,x3,x4,x5,x1070000,x1070001=>if x5<(x3.size:Int) then (if x1070000=64 then (if 0<=x5 then ((AX.f k (bt x3 x5) 1).bind λt1079=>(if x4.length<140737488355328 then (Az.l0 k x3 (x4++[t1079]) (wrap64 (x5+1)) x1070000 x1070001) else (none))) else (none)) else (if 0<=(wrap64 ((wrap64 ((x3.size:Int)-1))-x5)) then (if (wrap64 ((wrap64 ((x3.size:Int)-1))-x5))<(x3.size:Int) then ((AX.f k (bt x3 (wrap64 ((wrap64 ((x3.size:Int)-1))-x5))) 2).bind λt1083=>(if x4.length<140737488355328 then (Az.l0 k x3 (x4++[t1083]) (wrap64 (x5+1)) x1070000 x1070001) else (none))) else (none)) else (none))) else (some (strOfNums x4))
def Az.j2:Nat->Bool->Int->List (S150)->Option (ByteArray)
 | 0,_,_,_=>none
 | k+1,x68,x1070000,x1070001=>if x68=true then (if 0<(x1070001.length:Int) then ((Az.f k ((BO x1070001 0).f0) ((BO x1070001 0).f1)).bind λt1088=>(Az.l1 k t1088 (⟨#[]⟩:ByteArray) 48 x1070000 x1070001)) else (none)) else (some (strOfNums (([x1070000]:List Int))))
def Az.l1:Nat->ByteArray->ByteArray->Int->Int->List (S150)->Option (ByteArray)
 | 0,_,_,_,_,_=>none
 | k+1,x6,x7,x8,x1070000,x1070001=>if x8<x1070000 then (if x7.size+x6.size<=9223372036854775807 then (Az.l1 k x6 (x7++x6) ((x8+1) % 256) x1070000 x1070001) else (none)) else (some x7)
def Az.f:Nat->Int->List (S150)->Option (ByteArray)
 | 0,_,_=>none
 | k+1,a0_0,l0_1=>if a0_0=43 then (if 0<(l0_1.length:Int) then ((Az.f k ((BO l0_1 0).f0) ((BO l0_1 0).f1)).bind λt1071=>(if 1<(l0_1.length:Int) then ((Az.f k ((BO l0_1 1).f0) ((BO l0_1 1).f1)).bind λt1073=>(if t1071.size+t1073.size<=9223372036854775807 then (some (t1071++t1073)) else (none))) else (none))) else (none)) else (if a0_0=45 then (Az.j0 k true a0_0 l0_1) else (Az.j0 k (a0_0==64) a0_0 l0_1))
end
def Dm.f (k:Nat) (a0:ByteArray):Option (ByteArray×Bool):=(De.f k a0).bind λbt1092=>(if bt1092.2.2=true then ((Az.f k bt1092.1 bt1092.2.1).bind λt1098=>(some (t1098,true))) else (some ((⟨#[]⟩:ByteArray),false)))
def C4.f:Nat->Int->List (S150)->Option (Int×Int×Int)
 | 0,_,_=>none
 | k+1,a0_0,l0_1=>if a0_0=110 then (some (0,1,0)) else (if a0_0=101 then (some (1,0,0)) else (if a0_0=115 then (some (0,(-1),0)) else (if a0_0=119 then (some ((-1),0,0)) else (if 0<(l0_1.length:Int) then ((C4.f k ((BO l0_1 0).f0) ((BO l0_1 0).f1)).bind λbt1101=>(if a0_0=45 then (some (wrap64 (0-bt1101.1),wrap64 (0-bt1101.2.1),wrap64 (0-bt1101.2.2))) else (if a0_0=64 then (some (wrap64 (0-bt1101.2.1),bt1101.1,bt1101.2.2)) else (if a0_0=43 then (if 1<(l0_1.length:Int) then ((C4.f k ((BO l0_1 1).f0) ((BO l0_1 1).f1)).bind λbt1105=>(some (wrap64 (bt1101.1+bt1105.1),wrap64 (bt1101.2.1+bt1105.2.1),wrap64 ((wrap64 ((wrap64 (bt1101.2.2+bt1105.2.2))+(wrap64 (bt1101.1*bt1105.2.1))))-(wrap64 (bt1101.2.1*bt1105.1)))))) else (none)) else (some (wrap64 (((a0_0-48) % 256)*bt1101.1),wrap64 (((a0_0-48) % 256)*bt1101.2.1),wrap64 (((a0_0-48) % 256)*bt1101.2.2))))))) else (none)))))
def DW.f (k:Nat) (a0:ByteArray):Option (Int×Int×Bool):=(De.f k a0).bind λbt1108=>(if bt1108.2.2=true then ((C4.f k bt1108.1 bt1108.2.1).bind λbt1114=>(some (bt1114.1,bt1114.2.1,true))) else (some (0,0,false)))
def DI.f (k:Nat) (a0:ByteArray):Option (Int×Bool):=(De.f k a0).bind λbt1117=>(if bt1117.2.2=true then ((C4.f k bt1117.1 bt1117.2.1).bind λbt1123=>(some (bt1123.2.2,true))) else (some (0,false)))
mutual
def Bp.j1:Nat->Int->Bool->Int->List (S150)->Option (ByteArray)
 | 0,_,_,_,_=>none
 | k+1,x1,x2,x1127000,x1127001=>(AX.f k x1127000 x1).bind λt1144=>(if x2=true then ((AX.f k t1144 2).bind λt1145=>(some (strOfNums (([t1145]:List Int))))) else (some (strOfNums (([t1144]:List Int)))))
def Bp.j0:Nat->Int->Bool->Bool->Int->List (S150)->Option (ByteArray)
 | 0,_,_,_,_,_=>none
 | k+1,x1,x2,x33,x1127000,x1127001=>if x33=true then (if 1<(x1127001.length:Int) then ((Bp.f k ((BO x1127001 1).f0) ((BO x1127001 1).f1) x1 x2).bind λt1132=>(if 1+t1132.size<=9223372036854775807 then (if ((⟨#[40]⟩:ByteArray)++t1132).size+1<=9223372036854775807 then (if 0<(x1127001.length:Int) then ((Bp.f k ((BO x1127001 0).f0) ((BO x1127001 0).f1) x1 x2).bind λt1134=>(if (((⟨#[40]⟩:ByteArray)++t1132)++(⟨#[43]⟩:ByteArray)).size+t1134.size<=9223372036854775807 then (if ((((⟨#[40]⟩:ByteArray)++t1132)++(⟨#[43]⟩:ByteArray))++t1134).size+1<=9223372036854775807 then (some (((((⟨#[40]⟩:ByteArray)++t1132)++(⟨#[43]⟩:ByteArray))++t1134)++(⟨#[41]⟩:ByteArray))) else (none)) else (none))) else (none)) else (none)) else (none))) else (none)) else (if x1127000=43 then (if 0<(x1127001.length:Int) then ((Bp.f k ((BO x1127001 0).f0) ((BO x1127001 0).f1) x1 x2).bind λt1136=>(if 1+t1136.size<=9223372036854775807 then (if ((⟨#[40]⟩:ByteArray)++t1136).size+1<=9223372036854775807 then (if 1<(x1127001.length:Int) then ((Bp.f k ((BO x1127001 1).f0) ((BO x1127001 1).f1) x1 x2).bind λt1138=>(if (((⟨#[40]⟩:ByteArray)++t1136)++(⟨#[43]⟩:ByteArray)).size+t1138.size<=9223372036854775807 then (if ((((⟨#[40]⟩:ByteArray)++t1136)++(⟨#[43]⟩:ByteArray))++t1138).size+1<=9223372036854775807 then (some (((((⟨#[40]⟩:ByteArray)++t1136)++(⟨#[43]⟩:ByteArray))++t1138)++(⟨#[41]⟩:ByteArray))) else (none)) else (none))) else (none)) else (none)) else (none))) else (none)) else (if x1127000>=50 then (if x1127000<=57 then ((some (([x1127000]:List Int):List Int)).bind λy1139=>(if 0<(x1127001.length:Int) then ((Bp.f k ((BO x1127001 0).f0) ((BO x1127001 0).f1) x1 x2).bind λt1143=>(if (strOfNums y1139).size+t1143.size<=9223372036854775807 then (some ((strOfNums y1139)++t1143)) else (none))) else (none))) else (Bp.j1 k x1 x2 x1127000 x1127001)) else (Bp.j1 k x1 x2 x1127000 x1127001)))
def Bp.f:Nat->Int->List (S150)->Int->Bool->Option (ByteArray)
 | 0,_,_,_,_=>none
 | k+1,a0_0,l0_1,a1,a2=>if a0_0=45 then (if 0<(l0_1.length:Int) then ((Bp.f k ((BO l0_1 0).f0) ((BO l0_1 0).f1) a1 (!a2)).bind λt1128=>(some t1128)) else (none)) else (if a0_0=64 then (if 0<(l0_1.length:Int) then ((Bp.f k ((BO l0_1 0).f0) ((BO l0_1 0).f1) (Int.tmod (wrap64 (a1+1)) 4) a2).bind λt1130=>(some t1130)) else (none)) else (if a0_0=43 then (Bp.j0 k a1 a2 a2 a0_0 l0_1) else (Bp.j0 k a1 a2 false a0_0 l0_1)))
end
def DJ.f (k:Nat) (a0:ByteArray):Option (ByteArray×Bool):=(Eb.f k a0).bind λbt1152=>(if bt1152.2.2=true then ((Bp.f k bt1152.1 bt1152.2.1 0 false).bind λt1158=>(some (t1158,true))) else (some ((⟨#[]⟩:ByteArray),false)))
def BD.l0:Nat->ByteArray->Bool->Int->Int->Int->Int->Option (Int×Int×Int×Bool)
 | 0,_,_,_,_,_,_=>none
 | k+1,x6,x7,x8,x9,x10,x11=>if x11<(x6.size:Int) then (if 0<=x11 then (if 0<=(wrap64 (x11-1)) then (if (wrap64 (x11-1))<(x6.size:Int) then ((AX.f k (bt x6 (wrap64 (x11-1))) 1).bind λt1161=>(if (bt x6 x11)=t1161 then (BD.l0 k x6 x7 (wrap64 (x8+1)) x9 x10 (wrap64 (x11+1))) else ((AX.f k (bt x6 (wrap64 (x11-1))) 2).bind λt1162=>(if (bt x6 x11)=t1162 then (BD.l0 k x6 x7 x8 x9 (wrap64 (x10+1)) (wrap64 (x11+1))) else ((AX.f k (bt x6 (wrap64 (x11-1))) 3).bind λt1163=>(if (bt x6 x11)=t1163 then (BD.l0 k x6 x7 x8 (wrap64 (x9+1)) x10 (wrap64 (x11+1))) else (BD.l0 k x6 x7 x8 x9 x10 (wrap64 (x11+1))))))))) else (none)) else (none)) else (none)) else (some (x8,x9,x10,x7))
def BD.f (k:Nat) (a0:ByteArray):Option (Int×Int×Int×Bool):=(Dm.f k a0).bind λbt1159=>(BD.l0 k bt1159.1 bt1159.2 0 0 0 1)
def Dc.j0:Nat->List Int->ByteArray->ByteArray->List Int->Int->Option (ByteArray)
 | 0,_,_,_,_,_=>none
 | k+1,x0,x1,x2,x7,x8=>if x1.toList=([97,108,108]:List UInt8) then ((CX.f k x8).bind λbt1168=>((BR.f k bt1168.1 bt1168.2).bind λt1172=>(some t1172))) else (if x1.toList=([114,111,117,110,100]:List UInt8) then ((DK.f x8).bind λbt1173=>((Bq.f k bt1173.1 bt1173.2).bind λt1175=>(some t1175))) else (if x1.toList=([119,104,111,108,101]:List UInt8) then ((AW.f k x8).bind λbt1176=>((BR.f k bt1176.1 bt1176.2).bind λt1180=>(some t1180))) else (if x1.toList=([112,111,108,121,115]:List UInt8) then (if (x7.length:Int)=2 then (if 0<(x7.length:Int) then (if 1<(x7.length:Int) then ((Cf.f k (rd x7 0) (rd x7 1)).bind λbt1183=>((Bq.f k bt1183.1 bt1183.2).bind λt1185=>(some t1185))) else (none)) else (none)) else (some (⟨#[110,111,10]⟩:ByteArray))) else (if x1.toList=([99,104,97,105,110]:List UInt8) then ((Bc.f k x0 x8).bind λbt1186=>((Bq.f k bt1186.1 bt1186.2).bind λt1188=>(some t1188))) else (if x1.toList=([115,111,108,105,100]:List UInt8) then ((Dg.f k x7).bind λbt1189=>((Bq.f k bt1189.1 bt1189.2).bind λt1191=>(some t1191))) else (if x1.toList=([102,105,114,115,116]:List UInt8) then ((Do.f k x7).bind λbt1192=>((BG.f k bt1192.1 bt1192.2).bind λt1196=>(some t1196))) else (if x1.toList=([119,97,108,107]:List UInt8) then ((Dm.f k x2).bind λbt1197=>((CT.f bt1197.1 bt1197.2).bind λt1199=>(some t1199))) else (if x1.toList=([101,110,100]:List UInt8) then ((DW.f k x2).bind λbt1200=>((BG.f k (([bt1200.1,bt1200.2.1]:List Int)) bt1200.2.2).bind λt1206=>(some t1206))) else (if x1.toList=([116,119,105,99,101]:List UInt8) then ((DI.f k x2).bind λbt1207=>((Bq.f k bt1207.1 bt1207.2).bind λt1209=>(some t1209))) else (if x1.toList=([116,105,100,121]:List UInt8) then ((DJ.f k x2).bind λbt1210=>((CT.f bt1210.1 bt1210.2).bind λt1212=>(some t1212))) else (if x1.toList=([116,117,114,110,115]:List UInt8) then ((BD.f k x2).bind λbt1213=>((BG.f k (([bt1213.1,bt1213.2.1,bt1213.2.2.1]:List Int)) bt1213.2.2.2).bind λt1220=>(some t1220))) else (some (⟨#[119,104,97,116,10]⟩:ByteArray)))))))))))))
def Dc.f (k:Nat) (l0:List Int) (a1:ByteArray) (a2:ByteArray):Option (ByteArray):=(Ay.f k a2).bind λt1164=>(if (t1164.length:Int)=1 then (if 0<(t1164.length:Int) then (Dc.j0 k l0 a1 a2 t1164 (rd t1164 0)) else (none)) else (Dc.j0 k l0 a1 a2 t1164 (-1)))
def BF.j0:Nat->List Int->ByteArray->Int->Option (List Int×ByteArray)
 | 0,_,_,_=>none
 | k+1,a,p,i=>if i=(p.size:Int) then (if 0<=i then (if i<=(p.size:Int) then ((Bu.f k a (p.extract 0 i.toNat) ⟨#[]⟩ (decide (i=(p.size:Int)))).bind λt=>(if t.2.1=true then (if t.2.2=true then some (t.1,⟨#[111,107,10]⟩) else some (a,⟨#[110,111,10]⟩)) else ((Ef.f k a p).bind λs=>some (a,s)))) else none) else none) else
  (if 0<=wrap64 (i+1) then (if wrap64 (i+1)<=(p.size:Int) then (if 0<=i then (if i<=(p.size:Int) then ((Bu.f k a (p.extract 0 i.toNat) (p.extract (wrap64 (i+1)).toNat p.size) (decide (i=(p.size:Int)))).bind λt=>(if t.2.1=true then (if t.2.2=true then some (t.1,⟨#[111,107,10]⟩) else some (a,⟨#[110,111,10]⟩)) else ((Dc.f k a (p.extract 0 i.toNat) (p.extract (wrap64 (i+1)).toNat p.size)).bind λs=>some (a,s)))) else none) else none) else none) else none)
def BF.l0:Nat->List Int->ByteArray->Int->Option (List Int×ByteArray)
 | 0,_,_,_=>none
 | k+1,x0,x1,x6=>if x6<(x1.size:Int) then (if 0<=x6 then (if bt x1 x6=32 then BF.j0 k x0 x1 x6 else BF.l0 k x0 x1 (wrap64 (x6+1))) else none) else BF.j0 k x0 x1 x6
def BF.f (k:Nat) (l0:List Int) (a1:ByteArray):Option (List Int×ByteArray):=BF.l0 k l0 a1 0
def Co.l0:Nat->ByteArray->List Int->ByteArray->Int->Int->Option ByteArray
 | 0,_,_,_,_,_=>none
 | k+1,x0,x3,x4,x5,x6=>if x6<(x0.size:Int) then (if 0<=x6 then (if bt x0 x6=10 then (if 0<=x5 then (if x5<=x6 then (if x6<=(x0.size:Int) then ((BF.f k x3 (x0.extract x5.toNat x6.toNat)).bind λt=>(if x4.size+t.2.size<=9223372036854775807 then Co.l0 k x0 t.1 (x4++t.2) (wrap64 (x6+1)) (wrap64 (x6+1)) else none)) else none) else none) else none)
   else Co.l0 k x0 x3 x4 x5 (wrap64 (x6+1))) else none)
  else ((AE.f k (x3.length:Int)).bind λd=>(if x4.size+(⟨#[115,116,105,99,107,115,32]⟩:ByteArray).size<=9223372036854775807 then (if (x4++(⟨#[115,116,105,99,107,115,32]⟩:ByteArray)).size+d.size<=9223372036854775807 then (if ((x4++(⟨#[115,116,105,99,107,115,32]⟩:ByteArray))++d).size+(⟨#[10]⟩:ByteArray).size<=9223372036854775807 then
   some (((x4++(⟨#[115,116,105,99,107,115,32]⟩:ByteArray))++d)++(⟨#[10]⟩:ByteArray)) else none) else none) else none))
def Co.f (k:Nat) (a0:ByteArray):Option ByteArray:=if (a0.size:Int)>600 then some ⟨#[116,111,111,32,108,111,110,103,10]⟩ else Co.l0 k a0 [3,4,5] ⟨#[]⟩ 0 0
def AO.ro (k:Nat) (l0:List Int) (a1:ByteArray):Option ByteArray:=(if a1.toList=([115,111,114,116]:List UInt8) then none else (if a1.toList=([98,97,99,107]:List UInt8) then none else (if a1.toList=([115,104,111,119]:List UInt8) then ((C8.f k l0 true).bind λt1=>(some t1)) else (if a1.toList=([115,117,109]:List UInt8) then ((Ei.f k l0).bind λb1=>((Cz.f k b1.1 b1.2).bind λt1=>(some t1))) else (if a1.toList=([109,97,110,121]:List UInt8) then ((AQ.f k l0).bind λb1=>((Cz.f k b1.1 b1.2).bind λt1=>(some t1))) else (if a1.toList=([119,105,100,101,115,116]:List UInt8) then ((AG.f k l0).bind λb1=>((Cz.f k b1.1 b1.2).bind λt1=>(some t1))) else (if a1.toList=([102,114,101,101]:List UInt8) then ((AA.f k l0).bind λt1=>(if t1=true then ((DN.f k l0).bind λt2=>(if t2=true then (some (⟨#[121,101,115]⟩:ByteArray)) else (some (⟨#[110,111,116]⟩:ByteArray)))) else (some (⟨#[110,111]⟩:ByteArray)))) else (if a1.toList=([107,105,110,100]:List UInt8) then ((EF.f k l0).bind λb1=>((CZ.f b1.1 b1.2).bind λt1=>(some t1))) else (if a1.toList=([97,114,101,97]:List UInt8) then ((CY.f k l0).bind λb1=>((Cz.f k b1.1 b1.2).bind λt1=>(some t1))) else (if a1.toList=([104,97,108,102]:List UInt8) then ((EE.f k l0).bind λb1=>((C8.f k b1.1 b1.2).bind λt1=>(some t1))) else (if a1.toList=([103,97,112]:List UInt8) then ((ED.f k l0).bind λb1=>((Cz.f k b1.1 b1.2).bind λt1=>(some t1))) else (if a1.toList=([109,111,115,116]:List UInt8) then ((BM.f k l0).bind λb1=>((Cz.f k b1.1 b1.2).bind λt1=>(some t1))) else (if a1.toList=([112,97,114,116,115]:List UInt8) then ((D5.f k l0).bind λb1=>((C8.f k b1.1 b1.2).bind λt1=>(some t1))) else (if a1.toList=([102,105,120]:List UInt8) then ((EC.f k l0).bind λb1=>((Cz.f k b1.1 b1.2).bind λt1=>(some t1))) else (if a1.toList=([114,101,97,99,104]:List UInt8) then ((Cj.f k l0).bind λb1=>((Fk.f k b1.1 b1.2.1 b1.2.2).bind λt1=>(some t1))) else (if a1.toList=([104,111,108,100]:List UInt8) then ((D2.f k l0).bind λb1=>((Cz.f k b1.1 b1.2).bind λt1=>(some t1))) else (if a1.toList=([101,110,100,115]:List UInt8) then ((Ba.f k l0).bind λb1=>((C8.f k b1.1 b1.2).bind λt1=>(some t1))) else (if a1.toList=([110,101,97,114]:List UInt8) then ((Eh.f k l0).bind λb1=>((Cz.f k b1.1 b1.2).bind λt1=>(some t1))) else (if a1.toList=([102,111,108,100,115]:List UInt8) then ((Cw.f k l0).bind λb1=>((Cz.f k b1.1 b1.2).bind λt1=>(some t1))) else (if a1.toList=([115,112,97,110]:List UInt8) then ((BW.f k l0).bind λb1=>((Cz.f k b1.1 b1.2).bind λt1=>(some t1))) else (if a1.toList=([99,97,115,101]:List UInt8) then ((Cv.f k l0).bind λb1=>((Cz.f k b1.1 b1.2).bind λt1=>(some t1))) else (if a1.toList=([103,114,101,101,100,121]:List UInt8) then ((BS.f k l0).bind λb1=>((Cz.f k b1.1 b1.2).bind λt1=>(some t1))) else (if a1.toList=([98,101,115,116]:List UInt8) then ((BL.f k l0).bind λb1=>((CZ.f b1.1 b1.2).bind λt1=>(some t1))) else (if a1.toList=([119,97,121,115]:List UInt8) then ((AY.f k l0).bind λb1=>((Cz.f k b1.1 b1.2).bind λt1=>(some t1))) else (if a1.toList=([116,104,114,101,101,115]:List UInt8) then ((AN.f k l0).bind λb1=>((Cz.f k b1.1 b1.2).bind λt1=>(some t1))) else (if a1.toList=([116,119,111]:List UInt8) then ((Bw.f k l0).bind λb1=>((Cz.f k b1.1 b1.2).bind λt1=>(some t1))) else (if a1.toList=([112,114,111,111,102]:List UInt8) then ((Ck.f k l0).bind λb1=>((CZ.f b1.1 b1.2).bind λt1=>(some t1))) else (if a1.toList=([112,114,111,118,101,100]:List UInt8) then ((Dq.f k l0).bind λb1=>((CZ.f b1.1 b1.2).bind λt1=>(some t1))) else (some (⟨#[119,104,97,116]⟩:ByteArray))))))))))))))))))))))))))))))
def Aq.ro (k:Nat) (l0:List Int) (a1 a2:ByteArray):Option ByteArray:=(if a1.toList=([119,97,108,107]:List UInt8) then ((CD.f k a2).bind λb1=>((CZ.f b1.1 b1.2).bind λt1=>(some t1))) else (if a1.toList=([101,110,100]:List UInt8) then ((DV.f k a2).bind λb1=>((Fk.f k b1.1 b1.2.1 b1.2.2).bind λt1=>(some t1))) else (if a1.toList=([116,119,105,99,101]:List UInt8) then ((DE.f k a2).bind λb1=>((Cz.f k b1.1 b1.2).bind λt1=>(some t1))) else (if a1.toList=([116,105,100,121]:List UInt8) then ((DF.f k a2).bind λb1=>((CZ.f b1.1 b1.2).bind λt1=>(some t1))) else (if a1.toList=([116,117,114,110,115]:List UInt8) then ((Bi.f k a2).bind λb1=>((C8.f k ([b1.1,b1.2.1,b1.2.2.1]:List Int) b1.2.2.2).bind λt1=>(some t1))) else (if a1.toList=([115,101,116]:List UInt8) then ((Al.f k a2).bind λt=>(if t.2=true then (if 0<(t.1.length:Int) then none else none) else (some (⟨#[110,111]⟩:ByteArray)))) else (if a1.size<=9223372036854775807 then (if lkm a1=0 then (some (⟨#[119,104,97,116]⟩:ByteArray)) else ((Al.f k a2).bind λt=>(if t.2=true then (if (t.1.length:Int)=lkm a1 then (if 0<(t.1.length:Int) then (if a1.toList=([112,117,116]:List UInt8) then none else (if a1.toList=([100,114,111,112]:List UInt8) then (if rd t.1 0>=(l0.length:Int) then (some (⟨#[110,111]⟩:ByteArray)) else (if (l0.length:Int)=1 then (some (⟨#[110,111]⟩:ByteArray)) else none)) else (if a1.toList=([97,108,108]:List UInt8) then ((AB.f k (rd t.1 0)).bind λb1=>((Da.f k b1.1 b1.2).bind λt1=>(some t1))) else (if a1.toList=([114,111,117,110,100]:List UInt8) then ((CE.f k (rd t.1 0)).bind λb1=>((Cz.f k b1.1 b1.2).bind λt1=>(some t1))) else (if a1.toList=([119,104,111,108,101]:List UInt8) then ((AJ.f k (rd t.1 0)).bind λb1=>((Da.f k b1.1 b1.2).bind λt1=>(some t1))) else (if a1.toList=([112,111,108,121,115]:List UInt8) then (if 1<(t.1.length:Int) then ((AL.f k (rd t.1 0) (rd t.1 1)).bind λb1=>((Cz.f k b1.1 b1.2).bind λt1=>(some t1))) else none) else (if a1.toList=([99,104,97,105,110]:List UInt8) then ((Bn.f k l0 (rd t.1 0)).bind λb1=>((Cz.f k b1.1 b1.2).bind λt1=>(some t1))) else (if a1.toList=([115,111,108,105,100]:List UInt8) then ((DC.f k t.1).bind λb1=>((Cz.f k b1.1 b1.2).bind λt1=>(some t1))) else ((DR.f k t.1).bind λb1=>((C8.f k b1.1 b1.2).bind λt1=>(some t1))))))))))) else none) else (some (⟨#[110,111]⟩:ByteArray))) else (some (⟨#[110,111]⟩:ByteArray))))) else none)))))))

end
section
theorem BJ.calls (a0:Int) (r:Bool) (w:World) (h:BJ.f a0=some r) :
  Calls Tryz.prog 255 #[.int .i64 a0] w λe w'=>e=.returned (.bool r)/\Drawn0 w w':=by
 have H:(some (a0 != a0))=some r:=h;clear h;obtain rfl:=AS H;go_enter Tryz.func255,Tryz.ntmps255;go_wp2;go_ret;exact ⟨by first | rfl | (simp;done) | (simp [*];done),by repeat (first | exact Drawn0.refl _ | apply Drawn0.step)⟩
theorem CL.calls (a0:Int) (a1:Int) (r:Bool) (w:World) (h:CL.f a0 a1=some r) :
  Calls Tryz.prog 185 #[.int .i64 a0,.int .i64 a1] w λe w'=>e=.returned (.bool r)/\Drawn0 w w':=by
 have H:((BJ.f a0).bind λt243=>(if t243=true then ((BJ.f a1).bind λt244=>(if t244=true then (some (decide (a0<a1))) else (some true))) else (some (decide (a0<a1)))))=some r:=h;clear h;replace H:=By.mp H;obtain ⟨t243,A30,H⟩:=H;replace H:(if t243=true then ((BJ.f a1).bind λt244=>(if t244=true then (some (decide (a0<a1))) else (some true))) else (some (decide (a0<a1))))=some r:=H;have A3:=Aa.mk A30;clear A30;by_cases c4:t243=true
 ·subst c4;have H1:((BJ.f a1).bind λt244=>(if t244=true then (some (decide (a0<a1))) else (some true)))=some r:=by rw [if_pos rfl] at H;exact H
  clear H;have H:=H1;clear H1;replace H:=By.mp H;obtain ⟨t244,A50,H⟩:=H;replace H:(if t244=true then (some (decide (a0<a1))) else (some true))=some r:=H;have A5:=Aa.mk A50;clear A50;by_cases c6:t244=true
  ·subst c6;have H1:(some (decide (a0<a1)))=some r:=by rw [if_pos rfl] at H;exact H
   clear H;have H:=H1;clear H1;obtain rfl:=AS H;go_enter Tryz.func185,Tryz.ntmps185
   go_wp2_with (first | ((with_reducible refine Dz (f:=255) rfl ?_);refine FA (some 6) rfl rfl Tryz.func255 (by kernel_rfl) rfl #[.int .i64 a0] rfl (by (try simp only [List.map_toArray,Wz,List.map_nil]);first | done | rfl | (simp only [No,IT];rfl)) ?_;(with_reducible refine (BJ.calls a0 true _ A3.out).mono ?_);rintro e w' ⟨rfl,⟨nd,rfl⟩⟩;refine ⟨_,rfl,?_⟩) | (go_at_call 255;(with_reducible refine (BJ.calls a1 true _ A5.out).mono ?_);rintro e w' ⟨rfl,⟨nd,rfl⟩⟩))
   go_ret;exact ⟨by first | rfl | (simp;done) | (simp [*];done),by repeat (first | exact Drawn0.refl _ | apply Drawn0.step)⟩
  ·replace c6:=WJ.mpr c6;subst c6;have H1:(some true)=some r:=by rw [if_neg (show ¬ (false=true) by decide)] at H;exact H
   clear H;have H:=H1;clear H1;obtain rfl:=AS H;go_enter Tryz.func185,Tryz.ntmps185
   go_wp2_with (first | ((with_reducible refine Dz (f:=255) rfl ?_);refine FA (some 6) rfl rfl Tryz.func255 (by kernel_rfl) rfl #[.int .i64 a0] rfl (by (try simp only [List.map_toArray,Wz,List.map_nil]);first | done | rfl | (simp only [No,IT];rfl)) ?_;(with_reducible refine (BJ.calls a0 true _ A3.out).mono ?_);rintro e w' ⟨rfl,⟨nd,rfl⟩⟩;refine ⟨_,rfl,?_⟩) | (go_at_call 255;(with_reducible refine (BJ.calls a1 false _ A5.out).mono ?_);rintro e w' ⟨rfl,⟨nd,rfl⟩⟩))
   go_ret;exact ⟨by first | rfl | (simp;done) | (simp [*];done),by repeat (first | exact Drawn0.refl _ | apply Drawn0.step)⟩
 ·replace c4:=WJ.mpr c4;subst c4;have H1:(some (decide (a0<a1)))=some r:=by rw [if_neg (show ¬ (false=true) by decide)] at H;exact H
  clear H;have H:=H1;clear H1;obtain rfl:=AS H;go_enter Tryz.func185,Tryz.ntmps185
  go_wp2_with (first | ((with_reducible refine Dz (f:=255) rfl ?_);refine FA (some 6) rfl rfl Tryz.func255 (by kernel_rfl) rfl #[.int .i64 a0] rfl (by (try simp only [List.map_toArray,Wz,List.map_nil]);first | done | rfl | (simp only [No,IT];rfl)) ?_;(with_reducible refine (BJ.calls a0 false _ A3.out).mono ?_);rintro e w' ⟨rfl,⟨nd,rfl⟩⟩;refine ⟨_,rfl,?_⟩))
  go_ret;exact ⟨by first | rfl | (simp;done) | (simp [*];done),by repeat (first | exact Drawn0.refl _ | apply Drawn0.step)⟩
theorem Af.calls (k:Nat) (A0:Option Addr) (c0:Nat) (l0:List Int) (r:Bool) (w:World) (hr0:Kd.C (Kd.int .i64) w A0 l0.length l0) (hc0:l0.length<=c0) (h:Af.f k l0=some r) :
  Calls Tryz.prog 109 #[.slice A0 l0.length c0] w λe w'=>e=.returned (.bool r)/\Drawn0 w w':=by
 have HR0:=Aa.mk hr0;have HC0:=Aa.mk hc0;clear hr0 hc0;have H:(Af.l0 k l0 (wrap64 ((l0.length:Int)-1)))=some r:=h;clear h;have H':=Aa.mk H;clear H;go_enter Tryz.func109,Tryz.ntmps109;go_wp2
 repeat (go_quiet (fail);try go_wp2)
 go_loopg [3] k (λkq v3 w'=>∃ (x3_1:Int),v3=.int .i64 x3_1/\Aa (Af.l0 kq l0 x3_1=some r)/\Aa (kq<=k)/\Drawn0 w w')
 case atStart=>exact ⟨(wrap64 ((l0.length:Int)-1)),(by first | rfl | (simp;done) | (simp [*];done)),H',⟨Wn _⟩,by repeat (first | exact Drawn0.refl _ | apply Drawn0.step)⟩
 case round=>
  clear H'
  try clear c1
  obtain ⟨x3_1,rfl,HA,HK1,⟨m1,rfl⟩⟩:=hrel
  cases gk with
  | zero=>exact absurd HA.out (by simp [Af.l0])
  | succ k1=>
   have H:=HA.out;clear HA;simp only [Af.l0] at H;by_cases c2:x3_1>0
   ·rw [if_pos c2] at H;have c2b0:decide (0<x3_1)=true:=Wo c2;clear c2;by_cases c3:0<=x3_1
    ·rw [if_pos c3] at H;have c3b0:decide (0<=x3_1)=true:=Wo c3;clear c3;by_cases c4:x3_1<(l0.length:Int)
     ·rw [if_pos c4] at H;have c4b0:decide (x3_1<(l0.length:Int))=true:=Wo c4;clear c4
      obtain ⟨ji5,hji5⟩:∃ j_:Int,(wrap64 (x3_1-1))=j_:=⟨_,rfl⟩
      replace H:(if 0<=(ji5) then (if (ji5)<(l0.length:Int) then ((CL.f (rd l0 x3_1) (rd l0 (ji5))).bind λt247=>(if t247=true then (some false) else (Af.l0 k1 l0 ji5))) else (none)) else (none))=some r:=by first | (rw [hji5] at H;exact H) | (simp only [hji5] at H ⊢;exact H)
      have hji5w:(IntKind.i64.wrap (x3_1-1))=ji5:=(C9 _).trans hji5;by_cases c6:0<=(ji5)
      ·rw [if_pos c6] at H;have c6b0:decide (0<=(ji5))=true:=Wo c6;clear c6;by_cases c7:(ji5)<(l0.length:Int)
       ·rw [if_pos c7] at H;have c7b0:decide ((ji5)<(l0.length:Int))=true:=Wo c7;clear c7;replace H:=By.mp H;obtain ⟨t247,A80,H⟩:=H;replace H:(if t247=true then (some false) else (Af.l0 k1 l0 ji5))=some r:=H;have A8:=Aa.mk A80;clear A80;by_cases c9:t247=true
        ·subst c9;have H1:(some false)=some r:=by rw [if_pos rfl] at H;exact H
         clear H;have H:=H1;clear H1;obtain rfl:=AS H;have p245:0<=(x3_1:Int):=of_decide_eq_true (by first | (with_reducible assumption) | assumption);have q245:x3_1<(l0.length:Int):=of_decide_eq_true (by first | (with_reducible assumption) | assumption);obtain ⟨ad245,e245,hx245_0⟩:=Kd.at_int HR0.out x3_1 p245 q245;cases e245;replace p245:=eq_true p245;replace q245:=eq_true q245;have p246:0<=((ji5):Int):=of_decide_eq_true (by first | (with_reducible assumption) | assumption);have q246:(ji5)<(l0.length:Int):=of_decide_eq_true (by first | (with_reducible assumption) | assumption);obtain ⟨ad246,e246,hx246_0⟩:=Kd.at_int HR0.out (ji5) p246 q246
         obtain rfl:ad245=ad246:=(by injection e246)
         replace p246:=eq_true p246;replace q246:=eq_true q246
         go_wp2_with (first | (go_at_call 185;(with_reducible refine (CL.calls (rd l0 x3_1) (rd l0 (ji5)) true _ A8.out).mono ?_);rintro e w' ⟨rfl,⟨nd,rfl⟩⟩;(try first | exact ⟨rfl,_,World.drewN_drewN _ _ _⟩ | exact ⟨rfl,_,Eq.trans (World.drewN_drewN _ _ _) (WL (World.drewN _) (Nat.add_assoc _ _ _))⟩)))
         repeat (go_quiet (first | (go_at_call 185;(with_reducible refine (CL.calls (rd l0 x3_1) (rd l0 (ji5)) true _ A8.out).mono ?_);rintro e w' ⟨rfl,⟨nd,rfl⟩⟩;(try first | exact ⟨rfl,_,World.drewN_drewN _ _ _⟩ | exact ⟨rfl,_,Eq.trans (World.drewN_drewN _ _ _) (WL (World.drewN _) (Nat.add_assoc _ _ _))⟩)));try go_wp2_with (first | (go_at_call 185;(with_reducible refine (CL.calls (rd l0 x3_1) (rd l0 (ji5)) true _ A8.out).mono ?_);rintro e w' ⟨rfl,⟨nd,rfl⟩⟩;(try first | exact ⟨rfl,_,World.drewN_drewN _ _ _⟩ | exact ⟨rfl,_,Eq.trans (World.drewN_drewN _ _ _) (WL (World.drewN _) (Nat.add_assoc _ _ _))⟩))))
         go_ret;exact ⟨by first | rfl | (simp;done) | (simp [C9];done) | (simp only [<- hji5]<;>(first | rfl | simp)) | (simp [*];done),by repeat (first | exact Drawn0.refl _ | apply Drawn0.step)⟩
        ·replace c9:=WJ.mpr c9;subst c9;have H1:(Af.l0 k1 l0 ji5)=some r:=by rw [if_neg (show ¬ (false=true) by decide)] at H;exact H
         clear H;have H:=H1;clear H1;have H':=Aa.mk H;clear H;have p245:0<=(x3_1:Int):=of_decide_eq_true (by first | (with_reducible assumption) | assumption);have q245:x3_1<(l0.length:Int):=of_decide_eq_true (by first | (with_reducible assumption) | assumption);obtain ⟨ad245,e245,hx245_0⟩:=Kd.at_int HR0.out x3_1 p245 q245;cases e245;replace p245:=eq_true p245;replace q245:=eq_true q245;have p246:0<=((ji5):Int):=of_decide_eq_true (by first | (with_reducible assumption) | assumption);have q246:(ji5)<(l0.length:Int):=of_decide_eq_true (by first | (with_reducible assumption) | assumption);obtain ⟨ad246,e246,hx246_0⟩:=Kd.at_int HR0.out (ji5) p246 q246
         obtain rfl:ad245=ad246:=(by injection e246)
         replace p246:=eq_true p246;replace q246:=eq_true q246
         go_wp2_with (first | (go_at_call 185;(with_reducible refine (CL.calls (rd l0 x3_1) (rd l0 (ji5)) false _ A8.out).mono ?_);rintro e w' ⟨rfl,⟨nd,rfl⟩⟩;(try first | exact ⟨rfl,_,World.drewN_drewN _ _ _⟩ | exact ⟨rfl,_,Eq.trans (World.drewN_drewN _ _ _) (WL (World.drewN _) (Nat.add_assoc _ _ _))⟩)))
         repeat (go_quiet (first | (go_at_call 185;(with_reducible refine (CL.calls (rd l0 x3_1) (rd l0 (ji5)) false _ A8.out).mono ?_);rintro e w' ⟨rfl,⟨nd,rfl⟩⟩;(try first | exact ⟨rfl,_,World.drewN_drewN _ _ _⟩ | exact ⟨rfl,_,Eq.trans (World.drewN_drewN _ _ _) (WL (World.drewN _) (Nat.add_assoc _ _ _))⟩)));try go_wp2_with (first | (go_at_call 185;(with_reducible refine (CL.calls (rd l0 x3_1) (rd l0 (ji5)) false _ A8.out).mono ?_);rintro e w' ⟨rfl,⟨nd,rfl⟩⟩;(try first | exact ⟨rfl,_,World.drewN_drewN _ _ _⟩ | exact ⟨rfl,_,Eq.trans (World.drewN_drewN _ _ _) (WL (World.drewN _) (Nat.add_assoc _ _ _))⟩))))
         go_roundg k1
         case measure=>have:=HK1.out;omega
         case rel=>exact ⟨(ji5),(by first | rfl | (simp;done) | (simp only [<- hji5]<;>(first | rfl | simp)) | (simp [*];done)),H',⟨by have:=HK1.out;omega⟩,by repeat (first | exact Drawn0.refl _ | apply Drawn0.step)⟩
       ·rw [if_neg c7] at H;exact absurd H (by simp)
      ·rw [if_neg c6] at H;exact absurd H (by simp)
     ·rw [if_neg c4] at H;exact absurd H (by simp)
    ·rw [if_neg c3] at H;exact absurd H (by simp)
   ·rw [if_neg c2] at H;have c2b0:decide (0<x3_1)=false:=Wp c2;clear c2;obtain rfl:=AS H;go_wp2
    repeat (go_quiet (fail);try go_wp2)
    go_ret;exact ⟨by first | rfl | (simp;done) | (simp [*];done),by repeat (first | exact Drawn0.refl _ | apply Drawn0.step)⟩
theorem Am.calls (k:Nat) (A0:Option Addr) (c0:Nat) (l0:List Int) (r:Bool) (w:World) (hr0:Kd.C (Kd.int .i64) w A0 l0.length l0) (hc0:l0.length<=c0) (h:Am.f k l0=some r) :
  Calls Tryz.prog 40 #[.slice A0 l0.length c0] w λe w'=>e=.returned (.bool r)/\Drawn0 w w':=by
 have HR0:=Aa.mk hr0;have HC0:=Aa.mk hc0;clear hr0 hc0;have H:(Am.l0 k l0 l0 (l0.length:Int) 0)=some r:=h;clear h;have H':=Aa.mk H;clear H;go_enter Tryz.func40,Tryz.ntmps40;go_wp2
 go_loopg [7] k (λkq v7 w'=>∃ (x7_1:Int),v7=.int .i64 x7_1/\Aa (Am.l0 kq l0 l0 (l0.length:Int) x7_1=some r)/\Aa (kq<=k)/\Drawn0 w w')
 case atStart=>exact ⟨(0),(by first | rfl | (simp;done) | (simp [*];done)),H',⟨Wn _⟩,by repeat (first | exact Drawn0.refl _ | apply Drawn0.step)⟩
 case round=>
  clear H';obtain ⟨x7_1,rfl,HA,HK1,⟨m1,rfl⟩⟩:=hrel
  cases gk with
  | zero=>exact absurd HA.out (by simp [Am.l0])
  | succ k1=>
   have H:=HA.out;clear HA;simp only [Am.l0] at H;by_cases c2:x7_1<(l0.length:Int)
   ·rw [if_pos c2] at H;have c2b0:decide (x7_1<(l0.length:Int))=true:=Wo c2;clear c2;by_cases c3:0<=x7_1
    ·rw [if_pos c3] at H;have c3b0:decide (0<=x7_1)=true:=Wo c3;clear c3;by_cases c4:x7_1<(l0.length:Int)
     ·rw [if_pos c4] at H;have c4b0:decide (x7_1<(l0.length:Int))=true:=Wo c4;clear c4;by_cases c5:(rd l0 x7_1)<1
      ·rw [if_pos c5] at H;have c5b0:decide ((rd l0 x7_1)<1)=true:=Wo c5;clear c5;obtain rfl:=AS H;have p224:0<=(x7_1:Int):=of_decide_eq_true (by first | (with_reducible assumption) | assumption);have q224:x7_1<(l0.length:Int):=of_decide_eq_true (by first | (with_reducible assumption) | assumption);obtain ⟨ad224,e224,hx224_0⟩:=Kd.at_int HR0.out x7_1 p224 q224;cases e224;replace p224:=eq_true p224;replace q224:=eq_true q224;go_wp2;go_ret;exact ⟨by first | rfl | (simp;done) | (simp [*];done),by repeat (first | exact Drawn0.refl _ | apply Drawn0.step)⟩
      ·rw [if_neg c5] at H;have c5b0:decide ((rd l0 x7_1)<1)=false:=Wp c5;clear c5;by_cases c6:(rd l0 x7_1)>60
       ·rw [if_pos c6] at H;have c6b0:decide (60<(rd l0 x7_1))=true:=Wo c6;clear c6;obtain rfl:=AS H;have p224:0<=(x7_1:Int):=of_decide_eq_true (by first | (with_reducible assumption) | assumption);have q224:x7_1<(l0.length:Int):=of_decide_eq_true (by first | (with_reducible assumption) | assumption);obtain ⟨ad224,e224,hx224_0⟩:=Kd.at_int HR0.out x7_1 p224 q224;cases e224;replace p224:=eq_true p224;replace q224:=eq_true q224;go_wp2;go_ret;exact ⟨by first | rfl | (simp;done) | (simp [*];done),by repeat (first | exact Drawn0.refl _ | apply Drawn0.step)⟩
       ·rw [if_neg c6] at H;have c6b0:decide (60<(rd l0 x7_1))=false:=Wp c6;clear c6;have H':=Aa.mk H;clear H;have p224:0<=(x7_1:Int):=of_decide_eq_true (by first | (with_reducible assumption) | assumption);have q224:x7_1<(l0.length:Int):=of_decide_eq_true (by first | (with_reducible assumption) | assumption);obtain ⟨ad224,e224,hx224_0⟩:=Kd.at_int HR0.out x7_1 p224 q224;cases e224;replace p224:=eq_true p224;replace q224:=eq_true q224;go_wp2
        go_roundg k1
        case measure=>have:=HK1.out;omega
        case rel=>exact ⟨(wrap64 (x7_1+1)),(by first | rfl | (simp;done) | (simp [*];done)),H',⟨by have:=HK1.out;omega⟩,by repeat (first | exact Drawn0.refl _ | apply Drawn0.step)⟩
     ·rw [if_neg c4] at H;exact absurd H (by simp)
    ·rw [if_neg c3] at H;exact absurd H (by simp)
   ·rw [if_neg c2] at H;have c2b0:decide (x7_1<(l0.length:Int))=false:=Wp c2;clear c2;by_cases c7:(l0.length:Int)>=1
    ·rw [if_pos c7] at H;have c7b0:decide (1<=(l0.length:Int))=true:=Wo c7;have c7b1:decide (1<=l0.length)=true:=Wo (by omega);clear c7;obtain rfl:=AS H;go_wp2;go_ret;exact ⟨by first | rfl | (simp;done) | (simp [*];done),by repeat (first | exact Drawn0.refl _ | apply Drawn0.step)⟩
    ·rw [if_neg c7] at H;have c7b0:decide (1<=(l0.length:Int))=false:=Wp c7;have c7b1:decide (1<=l0.length)=false:=Wp (by omega);clear c7;obtain rfl:=AS H;go_wp2;go_ret;exact ⟨by first | rfl | (simp;done) | (simp [*];done),by repeat (first | exact Drawn0.refl _ | apply Drawn0.step)⟩
theorem AA.calls (k:Nat) (A0:Option Addr) (c0:Nat) (l0:List Int) (r:Bool) (w:World) (hr0:Kd.C (Kd.int .i64) w A0 l0.length l0) (hc0:l0.length<=c0) (h:AA.f k l0=some r) :
  Calls Tryz.prog 56 #[.slice A0 l0.length c0] w λe w'=>e=.returned (.bool r)/\Drawn0 w w':=by
 have HR0:=Aa.mk hr0;have HC0:=Aa.mk hc0;clear hr0 hc0;have H:((Am.f k l0).bind λt248=>(if t248=true then ((Af.f k l0).bind λt249=>(some t249)) else (some false)))=some r:=h;clear h;replace H:=By.mp H;obtain ⟨t248,A20,H⟩:=H;replace H:(if t248=true then ((Af.f k l0).bind λt249=>(some t249)) else (some false))=some r:=H;have A2:=Aa.mk A20;clear A20;by_cases c3:t248=true
 ·subst c3;have H1:((Af.f k l0).bind λt249=>(some t249))=some r:=by rw [if_pos rfl] at H;exact H
  clear H;have H:=H1;clear H1;replace H:=By.mp H;obtain ⟨t249,A40,H⟩:=H;replace H:(some t249)=some r:=H;have A4:=Aa.mk A40;clear A40;obtain rfl:=AS H;go_enter Tryz.func56,Tryz.ntmps56
  go_wp2_with (first | ((with_reducible refine Dz (f:=40) rfl ?_);refine FA (some 4) rfl rfl Tryz.func40 (by kernel_rfl) rfl #[.slice A0 l0.length c0] rfl (by (try simp only [List.map_toArray,Wz,List.map_nil]);first | done | rfl | (simp only [No,IT];rfl)) ?_;(with_reducible refine (Am.calls k _ _ l0 true _ ?side1 ?side2 A2.out).mono ?_);(case side1=>repeat (first | exact HR0.out | (with_reducible refine Kd.C_alloc ?_ _) | (with_reducible refine Kd.C_drewN ?_ _) | (with_reducible refine Kd.C_drew ?_)));(case side2=>exact HC0.out);rintro e w' ⟨rfl,⟨nd,rfl⟩⟩;refine ⟨_,rfl,?_⟩) | (go_at_call 109;(with_reducible refine (Af.calls k _ _ l0 t249 _ ?side1 ?side2 A4.out).mono ?_);(case side1=>repeat (first | exact HR0.out | (with_reducible refine Kd.C_alloc ?_ _) | (with_reducible refine Kd.C_drewN ?_ _) | (with_reducible refine Kd.C_drew ?_)));(case side2=>exact HC0.out);rintro e w' ⟨rfl,⟨nd,rfl⟩⟩))
  go_ret;exact ⟨by first | rfl | (simp;done) | (simp [*];done),by repeat (first | exact Drawn0.refl _ | apply Drawn0.step)⟩
 ·replace c3:=WJ.mpr c3;subst c3;have H1:(some false)=some r:=by rw [if_neg (show ¬ (false=true) by decide)] at H;exact H
  clear H;have H:=H1;clear H1;obtain rfl:=AS H;go_enter Tryz.func56,Tryz.ntmps56
  go_wp2_with (first | ((with_reducible refine Dz (f:=40) rfl ?_);refine FA (some 4) rfl rfl Tryz.func40 (by kernel_rfl) rfl #[.slice A0 l0.length c0] rfl (by (try simp only [List.map_toArray,Wz,List.map_nil]);first | done | rfl | (simp only [No,IT];rfl)) ?_;(with_reducible refine (Am.calls k _ _ l0 false _ ?side1 ?side2 A2.out).mono ?_);(case side1=>repeat (first | exact HR0.out | (with_reducible refine Kd.C_alloc ?_ _) | (with_reducible refine Kd.C_drewN ?_ _) | (with_reducible refine Kd.C_drew ?_)));(case side2=>exact HC0.out);rintro e w' ⟨rfl,⟨nd,rfl⟩⟩;refine ⟨_,rfl,?_⟩))
  go_ret;exact ⟨by first | rfl | (simp;done) | (simp [*];done),by repeat (first | exact Drawn0.refl _ | apply Drawn0.step)⟩
theorem B8.calls (k:Nat) (A0:Option Addr) (c0:Nat) (l0:List Int) (r:Int) (w:World) (hr0:Kd.C (Kd.int .i64) w A0 l0.length l0) (hc0:l0.length<=c0) (h:B8.f k l0=some r) :
  Calls Tryz.prog 105 #[.slice A0 l0.length c0] w λe w'=>e=.returned (.int .i64 r)/\Drawn0 w w':=by
 have HR0:=Aa.mk hr0;have HC0:=Aa.mk hc0;clear hr0 hc0;have H:(B8.l0 k 0 l0 (l0.length:Int) 0)=some r:=h;clear h;have H':=Aa.mk H;clear H;go_enter Tryz.func105,Tryz.ntmps105;go_wp2
 go_loopg [3,8] k (λkq v3 v8 w'=>∃ (x3_1:Int) (x8_1:Int),v3=.int .i64 x3_1/\v8=.int .i64 x8_1/\Aa (B8.l0 kq x3_1 l0 (l0.length:Int) x8_1=some r)/\Aa (kq<=k)/\Drawn0 w w')
 case atStart=>exact ⟨(0),(0),(by first | rfl | (simp;done) | (simp [*];done)),(by first | rfl | (simp;done) | (simp [*];done)),H',⟨Wn _⟩,by repeat (first | exact Drawn0.refl _ | apply Drawn0.step)⟩
 case round=>
  clear H'
  try clear c1
  obtain ⟨x3_1,x8_1,rfl,rfl,HA,HK1,⟨m1,rfl⟩⟩:=hrel
  cases gk with
  | zero=>exact absurd HA.out (by simp [B8.l0])
  | succ k1=>
   have H:=HA.out;clear HA;simp only [B8.l0] at H;by_cases c2:x8_1<(l0.length:Int)
   ·rw [if_pos c2] at H;have c2b0:decide (x8_1<(l0.length:Int))=true:=Wo c2;clear c2;by_cases c3:0<=x8_1
    ·rw [if_pos c3] at H;have c3b0:decide (0<=x8_1)=true:=Wo c3;clear c3;by_cases c4:x8_1<(l0.length:Int)
     ·rw [if_pos c4] at H;have c4b0:decide (x8_1<(l0.length:Int))=true:=Wo c4;clear c4;have H':=Aa.mk H;clear H;have p268:0<=(x8_1:Int):=of_decide_eq_true (by first | (with_reducible assumption) | assumption);have q268:x8_1<(l0.length:Int):=of_decide_eq_true (by first | (with_reducible assumption) | assumption);obtain ⟨ad268,e268,hx268_0⟩:=Kd.at_int HR0.out x8_1 p268 q268;cases e268;replace p268:=eq_true p268;replace q268:=eq_true q268;go_wp2
      go_roundg k1
      case measure=>have:=HK1.out;omega
      case rel=>exact ⟨(wrap64 (x3_1+(rd l0 x8_1))),(wrap64 (x8_1+1)),(by first | rfl | (simp;done) | (simp [*];done)),(by first | rfl | (simp;done) | (simp [*];done)),H',⟨by have:=HK1.out;omega⟩,by repeat (first | exact Drawn0.refl _ | apply Drawn0.step)⟩
     ·rw [if_neg c4] at H;exact absurd H (by simp)
    ·rw [if_neg c3] at H;exact absurd H (by simp)
   ·rw [if_neg c2] at H;have c2b0:decide (x8_1<(l0.length:Int))=false:=Wp c2;clear c2;obtain rfl:=AS H;go_wp2;go_ret;exact ⟨by first | rfl | (simp;done) | (simp [*];done),by repeat (first | exact Drawn0.refl _ | apply Drawn0.step)⟩
theorem BB.calls (k:Nat) (A0:Option Addr) (c0:Nat) (l0:List Int) (a1:Int) (r:Int) (w:World) (hr0:Kd.C (Kd.int .i64) w A0 l0.length l0) (hc0:l0.length<=c0) (h:BB.f k l0 a1=some r) :
  Calls Tryz.prog 189 #[.slice A0 l0.length c0,.int .i64 a1] w λe w'=>e=.returned (.int .i64 r)/\Drawn0 w w':=by
 have HR0:=Aa.mk hr0;have HC0:=Aa.mk hc0;clear hr0 hc0;have H:(BB.l0 k a1 0 l0 (l0.length:Int) 0)=some r:=h;clear h;have H':=Aa.mk H;clear H;go_enter Tryz.func189,Tryz.ntmps189;go_wp2
 go_loopg [5,10] k (λkq v5 v10 w'=>∃ (x5_1:Int) (x10_1:Int),v5=.int .i64 x5_1/\v10=.int .i64 x10_1/\Aa (BB.l0 kq a1 x5_1 l0 (l0.length:Int) x10_1=some r)/\Aa (kq<=k)/\Drawn0 w w')
 case atStart=>exact ⟨(0),(0),(by first | rfl | (simp;done) | (simp [*];done)),(by first | rfl | (simp;done) | (simp [*];done)),H',⟨Wn _⟩,by repeat (first | exact Drawn0.refl _ | apply Drawn0.step)⟩
 case round=>
  clear H'
  try clear c1
  try clear p2
  obtain ⟨x5_1,x10_1,rfl,rfl,HA,HK1,⟨m1,rfl⟩⟩:=hrel
  cases gk with
  | zero=>exact absurd HA.out (by simp [BB.l0])
  | succ k1=>
   have H:=HA.out;clear HA;simp only [BB.l0] at H;by_cases c3:x10_1<(l0.length:Int)
   ·rw [if_pos c3] at H;have c3b0:decide (x10_1<(l0.length:Int))=true:=Wo c3;clear c3;by_cases c4:0<=x10_1
    ·rw [if_pos c4] at H;have c4b0:decide (0<=x10_1)=true:=Wo c4;clear c4;by_cases c5:x10_1<(l0.length:Int)
     ·rw [if_pos c5] at H;have c5b0:decide (x10_1<(l0.length:Int))=true:=Wo c5;clear c5;by_cases c6:(rd l0 x10_1)=a1
      ·rw [if_pos c6] at H;have c6b0:((rd l0 x10_1)==a1)=true:=beq_iff_eq.mpr c6;have c6b1:((rd l0 x10_1) != a1)=false:=bne_eq_false_iff_eq.mpr c6;clear c6;have H':=Aa.mk H;clear H;have p418:0<=(x10_1:Int):=of_decide_eq_true (by first | (with_reducible assumption) | assumption);have q418:x10_1<(l0.length:Int):=of_decide_eq_true (by first | (with_reducible assumption) | assumption);obtain ⟨ad418,e418,hx418_0⟩:=Kd.at_int HR0.out x10_1 p418 q418;cases e418;replace p418:=eq_true p418;replace q418:=eq_true q418;go_wp2
       go_roundg k1
       case measure=>have:=HK1.out;omega
       case rel=>exact ⟨(wrap64 (x5_1+1)),(wrap64 (x10_1+1)),(by first | rfl | (simp;done) | (simp [*];done)),(by first | rfl | (simp;done) | (simp [*];done)),H',⟨by have:=HK1.out;omega⟩,by repeat (first | exact Drawn0.refl _ | apply Drawn0.step)⟩
      ·rw [if_neg c6] at H;have c6b0:((rd l0 x10_1)==a1)=false:=beq_eq_false_iff_ne.mpr c6;have c6b1:((rd l0 x10_1) != a1)=true:=bne_iff_ne.mpr c6;have H':=Aa.mk H;clear H;have p418:0<=(x10_1:Int):=of_decide_eq_true (by first | (with_reducible assumption) | assumption);have q418:x10_1<(l0.length:Int):=of_decide_eq_true (by first | (with_reducible assumption) | assumption);obtain ⟨ad418,e418,hx418_0⟩:=Kd.at_int HR0.out x10_1 p418 q418;cases e418;replace p418:=eq_true p418;replace q418:=eq_true q418;go_wp2
       go_roundg k1
       case measure=>have:=HK1.out;omega
       case rel=>exact ⟨(x5_1),(wrap64 (x10_1+1)),(by first | rfl | (simp;done) | (simp [*];done)),(by first | rfl | (simp;done) | (simp [*];done)),H',⟨by have:=HK1.out;omega⟩,by repeat (first | exact Drawn0.refl _ | apply Drawn0.step)⟩
     ·rw [if_neg c5] at H;exact absurd H (by simp)
    ·rw [if_neg c4] at H;exact absurd H (by simp)
   ·rw [if_neg c3] at H;have c3b0:decide (x10_1<(l0.length:Int))=false:=Wp c3;clear c3;obtain rfl:=AS H;go_wp2;go_ret;exact ⟨by first | rfl | (simp;done) | (simp [*];done),by repeat (first | exact Drawn0.refl _ | apply Drawn0.step)⟩
theorem Ao.calls (k:Nat) (A0:Option Addr) (c0:Nat) (l0:List Int) (a1:Int) (r:Int) (w:World) (hr0:Kd.C (Kd.int .i64) w A0 l0.length l0) (hc0:l0.length<=c0) (h:Ao.f k l0 a1=some r) :
  Calls Tryz.prog 190 #[.slice A0 l0.length c0,.int .i64 a1] w λe w'=>e=.returned (.int .i64 r)/\Drawn0 w w':=by
 have HR0:=Aa.mk hr0;have HC0:=Aa.mk hc0;clear hr0 hc0;have H:(Ao.l0 k l0 a1 (l0.length:Int) 0)=some r:=h;clear h;have H':=Aa.mk H;clear H;go_enter Tryz.func190,Tryz.ntmps190;go_wp2
 go_loopg [8] k (λkq v8 w'=>∃ (x8_1:Int),v8=.int .i64 x8_1/\Aa (Ao.l0 kq l0 a1 (l0.length:Int) x8_1=some r)/\Aa (kq<=k)/\Drawn0 w w')
 case atStart=>exact ⟨(0),(by first | rfl | (simp;done) | (simp [*];done)),H',⟨Wn _⟩,by repeat (first | exact Drawn0.refl _ | apply Drawn0.step)⟩
 case round=>
  clear H'
  try clear c1
  try clear p2
  obtain ⟨x8_1,rfl,HA,HK1,⟨m1,rfl⟩⟩:=hrel
  cases gk with
  | zero=>exact absurd HA.out (by simp [Ao.l0])
  | succ k1=>
   have H:=HA.out;clear HA;simp only [Ao.l0] at H;by_cases c3:x8_1<(l0.length:Int)
   ·rw [if_pos c3] at H;have c3b0:decide (x8_1<(l0.length:Int))=true:=Wo c3;clear c3;by_cases c4:0<=x8_1
    ·rw [if_pos c4] at H;have c4b0:decide (0<=x8_1)=true:=Wo c4;clear c4;by_cases c5:x8_1<(l0.length:Int)
     ·rw [if_pos c5] at H;have c5b0:decide (x8_1<(l0.length:Int))=true:=Wo c5;clear c5;by_cases c6:a1=(rd l0 x8_1)
      ·rw [if_pos c6] at H;have c6b0:(a1==(rd l0 x8_1))=true:=beq_iff_eq.mpr c6;have c6b1:(a1 != (rd l0 x8_1))=false:=bne_eq_false_iff_eq.mpr c6;clear c6;obtain rfl:=AS H;have p296:0<=(x8_1:Int):=of_decide_eq_true (by first | (with_reducible assumption) | assumption);have q296:x8_1<(l0.length:Int):=of_decide_eq_true (by first | (with_reducible assumption) | assumption);obtain ⟨ad296,e296,hx296_0⟩:=Kd.at_int HR0.out x8_1 p296 q296;cases e296;replace p296:=eq_true p296;replace q296:=eq_true q296;go_wp2;go_ret;exact ⟨by first | rfl | (simp;done) | (simp [*];done),by repeat (first | exact Drawn0.refl _ | apply Drawn0.step)⟩
      ·rw [if_neg c6] at H;have c6b0:(a1==(rd l0 x8_1))=false:=beq_eq_false_iff_ne.mpr c6;have c6b1:(a1 != (rd l0 x8_1))=true:=bne_iff_ne.mpr c6;have H':=Aa.mk H;clear H;have p296:0<=(x8_1:Int):=of_decide_eq_true (by first | (with_reducible assumption) | assumption);have q296:x8_1<(l0.length:Int):=of_decide_eq_true (by first | (with_reducible assumption) | assumption);obtain ⟨ad296,e296,hx296_0⟩:=Kd.at_int HR0.out x8_1 p296 q296;cases e296;replace p296:=eq_true p296;replace q296:=eq_true q296;go_wp2
       go_roundg k1
       case measure=>have:=HK1.out;omega
       case rel=>exact ⟨(wrap64 (x8_1+1)),(by first | rfl | (simp;done) | (simp [*];done)),H',⟨by have:=HK1.out;omega⟩,by repeat (first | exact Drawn0.refl _ | apply Drawn0.step)⟩
     ·rw [if_neg c5] at H;exact absurd H (by simp)
    ·rw [if_neg c4] at H;exact absurd H (by simp)
   ·rw [if_neg c3] at H;have c3b0:decide (x8_1<(l0.length:Int))=false:=Wp c3;clear c3;obtain rfl:=AS H;go_wp2;go_ret;exact ⟨by first | rfl | (simp;done) | (simp [*];done),by repeat (first | exact Drawn0.refl _ | apply Drawn0.step)⟩
theorem AF.calls (k:Nat) (A0:Option Addr) (c0:Nat) (l0:List Int) (a1:Int) (r:Bool) (w:World) (hr0:Kd.C (Kd.int .i64) w A0 l0.length l0) (hc0:l0.length<=c0) (h:AF.f k l0 a1=some r) :
  Calls Tryz.prog 123 #[.slice A0 l0.length c0,.int .i64 a1] w λe w'=>e=.returned (.bool r)/\Drawn0 w w':=by
 have HR0:=Aa.mk hr0;have HC0:=Aa.mk hc0;clear hr0 hc0;have H:((Ao.f k l0 a1).bind λt297=>(some (decide (t297>=0))))=some r:=h;clear h;replace H:=By.mp H;obtain ⟨t297,A30,H⟩:=H;replace H:(some (decide (t297>=0)))=some r:=H;have A3:=Aa.mk A30;clear A30;obtain rfl:=AS H;go_enter Tryz.func123,Tryz.ntmps123
 go_wp2_with (first | ((with_reducible refine Dz (f:=190) rfl ?_);refine FA (some 7) rfl rfl Tryz.func190 (by kernel_rfl) rfl #[.slice A0 l0.length c0,.int .i64 a1] rfl (by (try simp only [List.map_toArray,Wz,List.map_nil]);first | done | rfl | (simp only [No,IT];rfl)) ?_;(with_reducible refine (Ao.calls k _ _ l0 a1 t297 _ ?side1 ?side2 A3.out).mono ?_);(case side1=>repeat (first | exact HR0.out | (with_reducible refine Kd.C_alloc ?_ _) | (with_reducible refine Kd.C_drewN ?_ _) | (with_reducible refine Kd.C_drew ?_)));(case side2=>exact HC0.out);rintro e w' ⟨rfl,⟨nd,rfl⟩⟩;refine ⟨_,rfl,?_⟩))
 go_ret;exact ⟨by first | rfl | (simp;done) | (simp [*];done),by repeat (first | exact Drawn0.refl _ | apply Drawn0.step)⟩
theorem Cr.calls (a0:ByteArray) (a1:Int) (r:Int) (w:World) (h:Cr.f a0 a1=some r) :
  Calls Tryz.prog 170 #[.string a0,.int .u8 a1] w λe w'=>e=.returned (.int .i64 r)/\Drawn0 w w':=by
 injection h with h;subst h;go_enter Tryz.func170,Tryz.ntmps170;go_wp2;rw [run_callFunc_extern Tryz.func236 (by kernel_rfl) (by kernel_rfl) (by kernel_rfl) (e:=Extern.BytealgIndexByte.indexByte) (by kernel_rfl),Lib.run_indexByteString];simp only [Result.andThen];rw [Oper.upon_value];go_wp2;go_ret;exact ⟨rfl,Drawn0.refl _⟩
theorem C5.calls (a0:ByteArray) (a1:Int) (r:Int) (w:World) (h:C5.f a0 a1=some r) :
  Calls Tryz.prog 177 #[.string a0,.int .u8 a1] w λe w'=>e=.returned (.int .i64 r)/\Drawn0 w w':=by
 have H:((Cr.f a0 a1).bind λt101=>(some t101))=some r:=h;clear h;replace H:=By.mp H;obtain ⟨t101,A30,H⟩:=H;replace H:(some t101)=some r:=H;have A3:=Aa.mk A30;clear A30;obtain rfl:=AS H;go_enter Tryz.func177,Tryz.ntmps177
 go_wp2_with (first | ((with_reducible refine Dz (f:=170) rfl ?_);refine FA (some 7) rfl rfl Tryz.func170 (by kernel_rfl) rfl #[.string a0,.int .u8 a1] rfl (by (try simp only [List.map_toArray,Wz,List.map_nil]);first | done | rfl | (simp only [No,IT];rfl)) ?_;(with_reducible refine (Cr.calls a0 a1 t101 _ A3.out).mono ?_);rintro e w' ⟨rfl,⟨nd,rfl⟩⟩;refine ⟨_,rfl,?_⟩))
 go_ret;exact ⟨by first | rfl | (simp;done) | (simp [*];done),by repeat (first | exact Drawn0.refl _ | apply Drawn0.step)⟩
theorem Br.calls (a0:Int) (r:Int) (w:World) (h:Br.f a0=some r) :
  Calls Tryz.prog 93 #[.int .u8 a0] w λe w'=>e=.returned (.int .i64 r)/\Drawn0 w w':=by
 have H:((C5.f (⟨#[101,110,119,115]⟩:ByteArray) a0).bind λt102=>(some t102))=some r:=h;clear h;replace H:=By.mp H;obtain ⟨t102,A20,H⟩:=H;replace H:(some t102)=some r:=H;have A2:=Aa.mk A20;clear A20;obtain rfl:=AS H;go_enter Tryz.func93,Tryz.ntmps93
 go_wp2_with (first | ((with_reducible refine Dz (f:=177) rfl ?_);refine FA (some 4) rfl rfl Tryz.func177 (by kernel_rfl) rfl #[.string (⟨#[101,110,119,115]⟩:ByteArray),.int .u8 a0] rfl (by (try simp only [List.map_toArray,Wz,List.map_nil]);first | done | rfl | (simp only [No,IT];rfl)) ?_;(with_reducible refine (C5.calls (⟨#[101,110,119,115]⟩:ByteArray) a0 t102 _ A2.out).mono ?_);rintro e w' ⟨rfl,⟨nd,rfl⟩⟩;refine ⟨_,rfl,?_⟩))
 go_ret;exact ⟨by first | rfl | (simp;done) | (simp [*];done),by repeat (first | exact Drawn0.refl _ | apply Drawn0.step)⟩
theorem Av.calls (k:Nat) (A0:Option Addr) (c0:Nat) (l0:List Int) (r:Int) (w:World) (hr0:Kd.C (Kd.int .i64) w A0 l0.length l0) (hc0:l0.length<=c0) (h:Av.f k l0=some r) :
  Calls Tryz.prog 119 #[.slice A0 l0.length c0] w λe w'=>e=.returned (.int .i64 r)/\Drawn0 w w':=by
 have HR0:=Aa.mk hr0;have HC0:=Aa.mk hc0;clear hc0;unfold Av.f at h;by_cases c1:0<l0.length
 ·rw [if_pos c1] at h;have c1b:decide ((l0.length:Int)<1)=false:=Wp (by omega);obtain ⟨ad,rfl,hx⟩:=Kd.at_int hr0 0 (by omega) (by omega);rw [show ((0:Int)).toNat=0 from rfl,Addr.add_zero'] at hx;have p0:(0:Int)<(l0.length:Int):=by omega
  have HP:=Aa.mk c1;clear hr0 c1;have H':=Aa.mk h;clear h;go_enter Tryz.func119,Tryz.ntmps119;go_wp2
  go_loopg [3,4] k (λkq v3 v4 w'=>∃ (m i:Int),v3=.int .i64 m/\v4=.int .i64 i/\Aa (Av.l0 kq l0 m i=some r)/\Aa (kq<=k)/\Drawn0 w w')
  case atStart=>exact ⟨rd l0 0,1,(by first | rfl | (simp;done) | (simp [*];done)),(by first | rfl | (simp;done) | (simp [*];done)),H',⟨Wn _⟩,by repeat (first | exact Drawn0.refl _ | apply Drawn0.step)⟩
  case round=>
   clear H' hx
   try clear c1b
   obtain ⟨m,i,rfl,rfl,HA,HK,⟨nd,rfl⟩⟩:=hrel
   cases gk with
   | zero=>exact absurd HA.out (by simp [Av.l0])
   | succ k1=>
    have H:=HA.out;clear HA;simp only [Av.l0] at H;by_cases c4:i<(l0.length:Int)
    ·rw [if_pos c4] at H;have c4b0:decide (i<(l0.length:Int))=true:=Wo c4;by_cases c5:0<=i
     ·rw [if_pos c5] at H;have c5b0:decide (0<=i)=true:=Wo c5;obtain ⟨ad2,e2,hx2⟩:=Kd.at_int HR0.out i c5 c4;cases e2
      obtain ⟨x,hxx⟩:∃ x,x=rd l0 i:=⟨_,rfl⟩
      rw [<- hxx] at H hx2
      obtain ⟨jm,hjm⟩:∃ j_:Int,(mx m x)=j_:=⟨_,rfl⟩
      rw [hjm] at H;have hjm_:(if m<x then x else m)=jm:=hjm;have H':=Aa.mk H;clear H hxx;go_wp2
      go_roundg k1
      case measure=>omega
      case rel=>exact ⟨jm,wrap64 (i+1),(by first | rfl | (simp;done) | (simp only [<- hjm]<;>(first | rfl | simp)) | (simp [*];done)),(by first | rfl | (simp;done) | (simp [*];done)),H',⟨by have:=HK.out;omega⟩,by repeat (first | exact Drawn0.refl _ | exact ⟨_,rfl⟩ | apply Drawn0.step)⟩
     ·rw [if_neg c5] at H;exact absurd H (by simp)
    ·rw [if_neg c4] at H;have c4b0:decide (i<(l0.length:Int))=false:=Wp c4;obtain rfl:=AS H;go_wp2;go_ret;exact ⟨by first | rfl | (simp;done),by repeat (first | exact Drawn0.refl _ | exact ⟨_,rfl⟩ | apply Drawn0.step)⟩
 ·rw [if_neg c1] at h;exact absurd h (by simp)
theorem CK.calls (a0:ByteArray) (a1:ByteArray) (r:Bool) (w:World) (h:CK.f a0 a1=some r) :
  Calls Tryz.prog 273 #[.string a0,.string a1] w λe w'=>e=.returned (.bool r)/\Drawn0 w w':=by
 have H:(if (a0.size:Int)>=(a1.size:Int) then (if 0<=(a1.size:Int) then (if (a1.size:Int)<=(a0.size:Int) then (some ((a0.extract 0 ((a1.size:Int):Int).toNat).toList==a1.toList)) else (none)) else (none)) else (some false))=some r:=h;clear h;by_cases c3:(a0.size:Int)>=(a1.size:Int)
 ·rw [if_pos c3] at H;have c3b0:decide ((a1.size:Int)<=(a0.size:Int))=true:=Wo c3;have c3b1:decide (a1.size<=a0.size)=true:=Wo (Int.ofNat_le.mp c3);clear c3;by_cases c4:0<=(a1.size:Int)
  ·rw [if_pos c4] at H;have c4b0:=eq_true c4;have c4b1:decide (0<=(a1.size:Int))=true:=Wo c4;clear c4;by_cases c5:(a1.size:Int)<=(a0.size:Int)
   ·rw [if_pos c5] at H;have c5b0:=eq_true c5;have c5b1:decide ((a1.size:Int)<=(a0.size:Int))=true:=Wo c5;clear c5;obtain rfl:=AS H;go_enter Tryz.func273,Tryz.ntmps273;go_wp2;go_ret;exact ⟨by first | rfl | (simp;done) | (simp [*];done),by repeat (first | exact Drawn0.refl _ | apply Drawn0.step)⟩
   ·rw [if_neg c5] at H;exact absurd H (by simp)
  ·rw [if_neg c4] at H;exact absurd H (by simp)
 ·rw [if_neg c3] at H;have c3b0:decide ((a1.size:Int)<=(a0.size:Int))=false:=Wp c3;have c3b1:decide (a1.size<=a0.size)=false:=Wp (λh=>c3 (Int.ofNat_le.mpr h));clear c3;obtain rfl:=AS H;go_enter Tryz.func273,Tryz.ntmps273;go_wp2;go_ret;exact ⟨by first | rfl | (simp;done) | (simp [*];done),by repeat (first | exact Drawn0.refl _ | apply Drawn0.step)⟩
theorem Dj.calls (a0:ByteArray) (a1:ByteArray) (r1:ByteArray) (r2:Bool) (w:World) (h:Dj.f a0 a1=some (r1,r2)) :
  Calls Tryz.prog 274 #[.string a0,.string a1] w λe w'=>e=.returned (.tuple #[.string r1,.bool r2])/\Drawn0 w w':=by
 have H:((CK.f a0 a1).bind λt103=>(if t103=true then (if 0<=(a1.size:Int) then (if (a1.size:Int)<=(a0.size:Int) then (some (a0.extract ((a1.size:Int):Int).toNat a0.size,true)) else (none)) else (none)) else (some (a0,false))))=some (r1,r2):=h;clear h;replace H:=By.mp H;obtain ⟨t103,A30,H⟩:=H;replace H:(if t103=true then (if 0<=(a1.size:Int) then (if (a1.size:Int)<=(a0.size:Int) then (some (a0.extract ((a1.size:Int):Int).toNat a0.size,true)) else (none)) else (none)) else (some (a0,false)))=some (r1,r2):=H;have A3:=Aa.mk A30;clear A30;by_cases c4:t103=true
 ·subst c4;have H1:(if 0<=(a1.size:Int) then (if (a1.size:Int)<=(a0.size:Int) then (some (a0.extract ((a1.size:Int):Int).toNat a0.size,true)) else (none)) else (none))=some (r1,r2):=by rw [if_pos rfl] at H;exact H
  clear H;have H:=H1;clear H1;by_cases c5:0<=(a1.size:Int)
  ·rw [if_pos c5] at H;have c5b0:=eq_true c5;have c5b1:decide (0<=(a1.size:Int))=true:=Wo c5;clear c5;by_cases c6:(a1.size:Int)<=(a0.size:Int)
   ·rw [if_pos c6] at H;have c6b0:=eq_true c6;have c6b1:decide ((a1.size:Int)<=(a0.size:Int))=true:=Wo c6;clear c6;simp only [AT,If] at H;obtain ⟨rfl,rfl⟩:=H;go_enter Tryz.func274,Tryz.ntmps274
    go_wp2_with (first | ((with_reducible refine Dz (f:=273) rfl ?_);refine FA (some 8) rfl rfl Tryz.func273 (by kernel_rfl) rfl #[.string a0,.string a1] rfl (by (try simp only [List.map_toArray,Wz,List.map_nil]);first | done | rfl | (simp only [No,IT];rfl)) ?_;(with_reducible refine (CK.calls a0 a1 true _ A3.out).mono ?_);rintro e w' ⟨rfl,⟨nd,rfl⟩⟩;refine ⟨_,rfl,?_⟩))
    go_ret2;exact ⟨by first | rfl | (simp;done) | (simp [*];done),by repeat (first | exact Drawn0.refl _ | apply Drawn0.step)⟩
   ·rw [if_neg c6] at H;exact absurd H (by simp)
  ·rw [if_neg c5] at H;exact absurd H (by simp)
 ·replace c4:=WJ.mpr c4;subst c4;have H1:(some (a0,false))=some (r1,r2):=by rw [if_neg (show ¬ (false=true) by decide)] at H;exact H
  clear H;have H:=H1;clear H1;simp only [AT,If] at H;obtain ⟨rfl,rfl⟩:=H;go_enter Tryz.func274,Tryz.ntmps274
  go_wp2_with (first | ((with_reducible refine Dz (f:=273) rfl ?_);refine FA (some 8) rfl rfl Tryz.func273 (by kernel_rfl) rfl #[.string a0,.string a1] rfl (by (try simp only [List.map_toArray,Wz,List.map_nil]);first | done | rfl | (simp only [No,IT];rfl)) ?_;(with_reducible refine (CK.calls a0 a1 false _ A3.out).mono ?_);rintro e w' ⟨rfl,⟨nd,rfl⟩⟩;refine ⟨_,rfl,?_⟩))
  go_ret2;exact ⟨by first | rfl | (simp;done) | (simp [*];done),by repeat (first | exact Drawn0.refl _ | apply Drawn0.step)⟩
theorem CQ.calls (a0:ByteArray) (a1:ByteArray) (r1:ByteArray) (r2:Bool) (w:World) (h:CQ.f a0 a1=some (r1,r2)) :
  Calls Tryz.prog 241 #[.string a0,.string a1] w λe w'=>e=.returned (.tuple #[.string r1,.bool r2])/\Drawn0 w w':=by
 have H:((Dj.f a0 a1).bind λbt104=>(some (bt104.1,bt104.2)))=some (r1,r2):=h;clear h;replace H:=By.mp H;obtain ⟨⟨t104,t105⟩,A30,H⟩:=H;replace H:(some (t104,t105))=some (r1,r2):=H;have A3:=Aa.mk A30;clear A30;simp only [AT,If] at H;obtain ⟨rfl,rfl⟩:=H;go_enter Tryz.func241,Tryz.ntmps241
 go_wp2_with (first | ((with_reducible refine Dz (f:=274) rfl ?_);refine FA (some 8) rfl rfl Tryz.func274 (by kernel_rfl) rfl #[.string a0,.string a1] rfl (by (try simp only [List.map_toArray,Wz,List.map_nil]);first | done | rfl | (simp only [No,IT];rfl)) ?_;(with_reducible refine (Dj.calls a0 a1 t104 t105 _ A3.out).mono ?_);rintro e w' ⟨rfl,⟨nd,rfl⟩⟩;refine ⟨_,rfl,?_⟩))
 go_ret2;exact ⟨by first | rfl | (simp;done) | (simp [*];done),by repeat (first | exact Drawn0.refl _ | apply Drawn0.step)⟩
theorem Ab.way_is (c:Int) (h0:0<=c) (h1:c<=255):Br.f c=some (Ab.way c):=by
 have key:∀ n:Nat,n<256->Br.f (n:Int)=some (Ab.way n):=by decide +kernel
 have:=key c.toNat (by omega)
 rwa [Int.toNat_of_nonneg h0] at this
theorem Ab.pre_is (c:UInt8) (l:ByteArray):CK.f l ⟨#[c]⟩=some (decide (0<l.size/\bt l 0=(c.toNat:Int))):=by
 have hs:(⟨#[c]⟩:ByteArray).size=1:=rfl;have hl:(⟨#[c]⟩:ByteArray).toList=[c]:=by rw [Lib.toList_data]
 unfold CK.f;simp only [hs,hl];by_cases h:0<l.size
 ·have e:((l.extract 0 (((1:Nat):Int)).toNat).toList==[c])=decide (bt l 0=(c.toNat:Int)):=by
   rw [Lib.extract_toList];have hn:0<l.data.toList.length:=by rw [FZ];exact h
   obtain ⟨x,r,hx⟩:∃ x r,l.data.toList=x::r:=List.exists_cons_of_length_pos hn;have h0:l[0]=l.data.toList[0]:=rfl;have hb:bt l 0=(l[0].toNat:Int):=by unfold bt;rw [dif_pos (by simpa using h)];rfl
   rw [hb,h0,Bool.eq_iff_iff];simp only [hx];simp;constructor
   ·intro hh;rw [hh]
   ·intro hh;exact UInt8.toNat_inj.mp (by omega)
  rw [if_pos (show (l.size:Int)>=((1:Nat):Int) by omega),if_pos (show (0:Int)<=((1:Nat):Int) by omega),if_pos (show ((1:Nat):Int)<=(l.size:Int) by omega),e];simp [h]
 ·rw [if_neg (show ¬ (l.size:Int)>=((1:Nat):Int) by omega)];simp [h]
theorem Ab.cut_is (c:UInt8) (l:ByteArray):CQ.f l ⟨#[c]⟩=some (Ab.cut c.toNat l):=by
 have hs:(⟨#[c]⟩:ByteArray).size=1:=rfl;unfold CQ.f Dj.f Ab.cut;rw [Ab.pre_is];simp only [hs,AI];by_cases h:0<l.size/\bt l 0=(c.toNat:Int)
 ·rw [if_pos h,if_pos (Wo h),if_pos (show (0:Int)<=((1:Nat):Int) by omega),if_pos (show ((1:Nat):Int)<=(l.size:Int) by omega)];rfl
 ·rw [if_neg h,if_neg (by simp only [Wp h];decide)];rfl
def Ab.Post (r:Int×List S96×ByteArray×Bool) (w:World) (e:Ending) (w':World):Prop:=
 ∃ v1_:Value,e=.returned (.tuple #[.agg #[.int .u8 r.1,v1_],.string r.2.2.1,.bool r.2.2.2])/\Kd.R k96 96 w' w.heap.size (λ_=>True) v1_ r.2.1/\Below w.heap.size w w'
theorem Ab.heap_new {W:World} {o:Obj} {g:Nat} (h:g=W.heap.size):(W.alloc o).heap[g]?=some o:=by
 subst h;exact heap_alloc_new W o
theorem Ab.row_two {w:World} {g base:Nat} {c d:Int} {v u:Value} {kids more:List S96} (h:w.heap[g]?=some (.cells #[.int .u8 c,v,.int .u8 d,u] 96 (0,0))) (hb:base<=g)
  (hk:Kd.R k96 96 w base (λk=>k≠g) v kids) (hm:Kd.R k96 96 w base (λk=>k≠g) u more) :
  Kd.R k96 96 w base (λ_=>True) (.slice (some ⟨g,0,none⟩) 2 2) [⟨c,kids⟩,⟨d,more⟩]:=by
 refine ⟨λ_ _=>trivial,[.int .u8 c,v,.int .u8 d,u],⟨rfl,Or.inr ⟨g,2,#[.int .u8 c,v,.int .u8 d,u],rfl,hb,h,Wn _,by decide,rfl,rfl⟩⟩,rfl,λj q hq=>?_⟩
 match j,hq with
 | 0,hq=>
  injection hq with hq;subst hq
  exact LR w base _ _ (Kd.R_mono hk (λk hk=>⟨trivial,λhe=>hk (by simpa [Value.ownBlock] using he)⟩))
 | 1,hq=>
  injection hq with hq;subst hq
  exact LR w base _ _ (Kd.R_mono hm (λk hk=>⟨trivial,λhe=>hk (by simpa [Value.ownBlock] using he)⟩))
 | j+2,hq=>simp at hq
theorem Ab.kids_move {w1 W2:World} {B base g:Nat} {v:Value} {xs:List S96} (h:Kd.R k96 96 w1 B (λ_=>True) v xs) (hb:base<=B) (hm:∀ k,B<=k->k<w1.heap.size->W2.heap[k]?=w1.heap[k]?) (hg:w1.heap.size<=g) :
  Kd.R k96 96 W2 base (λk=>k≠g) v xs:=
 Kd.R_mono (Kd.R_step (Kd.R_lower (Kd.R_bound h) hb) (λk hk hlt=>hm k hk.2.1 hlt)) (λk hk=>by have:=hk.2.2.1;omega)
theorem Ab.full {a0:ByteArray} (h0:0<a0.size):a0.toList.isEmpty=false:=by
 rw [Lib.toList_data];have:=FZ a0
 cases h:a0.data.toList with
 | nil=>rw [h] at this;simp at this;omega
 | cons x r=>rfl
theorem Ab.at_end (a0:ByteArray) (w:World) (h1:a0.toList=[]) :
  Calls Tryz.prog 176 #[.string a0] w (Ab.Post (0,[],a0,false) w):=by
 have hu34:=Tryz.underlying96;have hd:a0.toList.isEmpty=true:=by rw [h1];rfl
 clear h1;go_enter Tryz.func176,Tryz.ntmps176
 go_wp2_with fail
 refine bodyPost_ret (Ff rfl _ _ w.heap.size 96 #[.int .u8 0,.slice none 0 0] (0,0) _ rfl (by repeat (first | (refine Ab.heap_new ?_;simp;done) | refine B3 ?_ _)) Tryz.underlying96 rfl (by kernel_rfl)) rfl ?_;exact ⟨_,rfl,Kd.R_nil _ _ _ _ _,Ad (WG _ _) _⟩
theorem Ab.at_leaf (a0:ByteArray) (w:World) (hs:a0.size<=60) (h0:0<a0.size) (c:Int) (hb:∀ h:0<a0.size,((a0[0]'h).toNat:Int)=c) (u:Int) (hw:Br.f c=some u) (hu:decide (0<=u)=true) :
  Calls Tryz.prog 176 #[.string a0] w (Ab.Post (c,[],a0.extract 1 a0.size,true) w):=by
 have hu34:=Tryz.underlying96;have hd:a0.toList.isEmpty=false:=Ab.full h0;have HW:=Lib.hid hw;clear hw;go_enter Tryz.func176,Tryz.ntmps176
 go_wp2_with (go_at_call 93;refine (Br.calls _ _ _ HW.out).mono ?_;rintro e w1 ⟨rfl,⟨⟨n,rfl⟩⟩⟩)
 refine bodyPost_ret (Ff rfl _ _ w.heap.size 96 #[.int .u8 c,.slice none 0 0] (0,0) _ rfl (Ce (Ce (cs:=#[.int .u8 0,.slice none 0 0]) (by repeat (first | (refine Ab.heap_new ?_;simp;done) | refine B3 ?_ _ | refine BH ?_ _ | refine Mt ?_)) 0 _ rfl) 1 _ rfl) Tryz.underlying96 rfl (by kernel_rfl)) rfl ?_;exact ⟨_,rfl,Kd.R_nil _ _ _ _ _,by repeat (first | exact WG _ _ | apply Ad | apply Ac | apply Ae | refine C6 ?_ (Wn _))⟩
theorem Ab.at_one' (a0:ByteArray) (w:World) (hs:a0.size<=60) (h0:0<a0.size) (c:Int) (hb:∀ h:0<a0.size,((a0[0]'h).toNat:Int)=c) (u:Int) (hw:Br.f c=some u) (hu:decide (0<=u)=false)
  (e5:(c==45)=true\/((c==45)=false/\(c==64)=true)\/((c==45)=false/\(c==64)=false/\decide (50<=c)=true/\decide (c<=57)=true)) (t:Int×List S96×ByteArray×Bool)
  (ih:∀ w,Calls Tryz.prog 176 #[.string (a0.extract 1 a0.size)] w (Ab.Post t w)) :
  Calls Tryz.prog 176 #[.string a0] w (Ab.Post (c,[⟨t.1,t.2.1⟩],t.2.2.1,t.2.2.2) w):=by
 have hu34:=Tryz.underlying96;have hd:a0.toList.isEmpty=false:=Ab.full h0;have HW:=Lib.hid hw;have IH:=Lib.hid ih;clear hw ih;rcases e5 with e5 | ⟨e5,e6⟩ | ⟨e5,e6,e7,e8⟩
 all_goals
  go_enter Tryz.func176,Tryz.ntmps176
  go_wp2_with (go_at_call 93;refine (Br.calls _ _ _ HW.out).mono ?_;rintro e w1 ⟨rfl,⟨⟨n,rfl⟩⟩⟩)
  refine (IH.out _).mono ?_;rintro e w1 ⟨v1,rfl,hR1,hB1⟩;have HB:=Lib.hid (Bl (g:=w.heap.size) (o:=.cells #[.int .u8 0,.slice none 0 0] 96) (by repeat (first | (refine Ab.heap_new ?_;simp;done) | refine B3 ?_ _ | refine BH ?_ _)) hB1);have HT:=Lib.hid (Bl (g:=w.heap.size+1) (o:=.cells #[.int .u8 c,.slice none 0 0] 96) (by repeat (first | (refine Ab.heap_new ?_;simp;done) | refine B3 ?_ _ | refine BH ?_ _)) hB1);have hz:w.heap.size<w1.heap.size:=Dp HB.out;have hz1:w.heap.size+1<w1.heap.size:=Dp HT.out;have t1:w1.cell? ⟨w.heap.size+1,1,none⟩=some (.slice none 0 0):=Ak HT.out 1;obtain ⟨A1,k1,rfl⟩:=Kd.R_slice hR1;have HR:=Lib.hid hR1;have B0:=Lib.hid (show Below w.heap.size w w1 from Ez (B:=w.heap.size) (by repeat (first | exact WG _ _ | apply Ad | apply Ac | apply Ae)) (by simp;omega) hB1);clear hR1 hB1;have hr2:w1.frozen? ⟨w.heap.size+1,1,none⟩=false:=AD HT.out 1
  go_wp2_with (at_builtin;refine Kd.R_append k96 (w0:=w) w.heap.size rfl (.tmp 58) (.tmp 60) 94 96 (.agg #[.int .u8 0,.slice none 0 0]) 32 rfl Tryz.underlying94 Uk rfl (by decide) (by decide) (.slice none 0 0) [] ⟨t.1,t.2.1⟩ [.int .u8 t.1,.slice A1 t.2.1.length k1] (λk=>k≠w.heap.size/\k≠w.heap.size+1) (λk=>w.heap.size+1+1<=k) rfl ?hx ?hp ?hokp ?hfresh (Kd.R_nil _ _ _ _ _) ?hBB ?hbase (by decide) ?_;(case hx=>(show Value.slice (some ⟨w1.heap.size+1,0,none⟩) 1 1=_;simp));(case hp=>exact LR _ _ _ _ (Kd.R_mono (Kd.R_step (Kd.R_lower (Kd.R_bound HR.out) (by simp;omega)) (λk hk hlt=>Below.heap_alloc _ _ _ hlt)) (λk hk=>by have:=hk.2.1;simp at this;omega)));(case hokp=>(intro k hk;exact ⟨⟨by omega,by omega⟩,by simp [Value.ownBlock]⟩));(case hfresh=>(intro k hk;simp at hk;exact ⟨by omega,by omega⟩));(case hBB=>exact Ad B0.out _);(case hbase=>(simp;omega));intro v2 w2 hR2 hB2 hg2 hat2;obtain ⟨A2,k2,rfl⟩:=Kd.R_slice hR2;have HR2:=Lib.hid hR2;have HB2:=Lib.hid (CU (B3 HB.out _) hg2 (by simp [Value.ownBlock]));have HT2:=Lib.hid (CU (B3 HT.out _) hg2 (by simp [Value.ownBlock]));have BB2:=Lib.hid hB2;have p0:=Ak HB2.out 0;have p1:=Ak HB2.out 1;have p2:=Ak HT2.out 0;have p3:=Ak HT2.out 1;have q0:=AD HB2.out 0;have q1:=AD HB2.out 1;have q2:=AD HT2.out 1;simp only [List.getElem?_toArray,List.getElem?_cons_zero,List.getElem?_cons_succ] at p0 p1 p2 p3;clear hR2 hB2 hg2 hat2)
  refine bodyPost_ret (Ff rfl _ _ w.heap.size 96 #[.int .u8 c,.slice A2 1 k2] (0,0) _ rfl (Ce (Ce (E5 HB2.out (by simp) _) 0 _ rfl) 1 _ rfl) Tryz.underlying96 rfl (by kernel_rfl)) rfl ?_;exact ⟨_,rfl,Kd.R_mono (Kd.R_far (p:=⟨w.heap.size,1,none⟩) (Kd.R_far (p:=⟨w.heap.size,0,none⟩) (Kd.R_far (p:=⟨w.heap.size+1,1,none⟩) HR2.out (λk hk=>hk.2) _) (λk hk=>hk.1) _) (λk hk=>hk.1) _) (λ_ _=>trivial),C6 (C6 (C6 BB2.out (by omega)) (Wn _)) (Wn _)⟩
theorem Ab.at_not (a0:ByteArray) (w:World) (hs:a0.size<=60) (h0:0<a0.size) (c:Int) (hb:∀ h:0<a0.size,((a0[0]'h).toNat:Int)=c) (u:Int) (hw:Br.f c=some u) (hu:decide (0<=u)=false)
  (e5:(c==45)=false) (e6:(c==64)=false) (e7:decide (50<=c)=false\/(decide (50<=c)=true/\decide (c<=57)=false)) (e8:(c != 40)=true) :
  Calls Tryz.prog 176 #[.string a0] w (Ab.Post (c,[],a0.extract 1 a0.size,false) w):=by
 have hu34:=Tryz.underlying96;have hd:a0.toList.isEmpty=false:=Ab.full h0;have HW:=Lib.hid hw;clear hw;rcases e7 with e7 | ⟨e7,e9⟩
 all_goals
  go_enter Tryz.func176,Tryz.ntmps176
  go_wp2_with (go_at_call 93;refine (Br.calls _ _ _ HW.out).mono ?_;rintro e w1 ⟨rfl,⟨⟨n,rfl⟩⟩⟩)
  refine bodyPost_ret (Ff rfl _ _ w.heap.size 96 #[.int .u8 c,.slice none 0 0] (0,0) _ rfl (Ce (Ce (cs:=#[.int .u8 0,.slice none 0 0]) (by repeat (first | (refine Ab.heap_new ?_;simp;done) | refine B3 ?_ _ | refine BH ?_ _ | refine Mt ?_)) 0 _ rfl) 1 _ rfl) Tryz.underlying96 rfl (by kernel_rfl)) rfl ?_;exact ⟨_,rfl,Kd.R_nil _ _ _ _ _,by repeat (first | exact WG _ _ | apply Ad | apply Ac | apply Ae | refine C6 ?_ (Wn _))⟩
theorem Ab.at_mid (a0:ByteArray) (w:World) (hs:a0.size<=60) (h0:0<a0.size) (c:Int) (hb:∀ h:0<a0.size,((a0[0]'h).toNat:Int)=c) (u:Int) (hw:Br.f c=some u) (hu:decide (0<=u)=false)
  (e5:(c==45)=false) (e6:(c==64)=false) (e7:decide (50<=c)=false) (e8:(c != 40)=false) (t1:Int) (t2:List S96) (t3:ByteArray) (t4:Bool)
  (ih:∀ w,Calls Tryz.prog 176 #[.string (a0.extract 1 a0.size)] w (Ab.Post (t1,t2,t3,t4) w)) (l1:ByteArray) (q1:Bool) (hq:CQ.f t3 ⟨#[43]⟩=some (l1,q1)) (hn:t4=false\/(t4=true/\q1=false)) :
  Calls Tryz.prog 176 #[.string a0] w (Ab.Post (c,[],a0.extract 1 a0.size,false) w):=by
 have hu34:=Tryz.underlying96;have hd:a0.toList.isEmpty=false:=Ab.full h0;have HW:=Lib.hid hw;have IH:=Lib.hid ih;have HQ:=Lib.hid hq;clear hw ih hq;rcases hn with rfl | ⟨rfl,rfl⟩
 all_goals
  go_enter Tryz.func176,Tryz.ntmps176
  go_wp2_with (go_at_call 93;refine (Br.calls _ _ _ HW.out).mono ?_;rintro e w1 ⟨rfl,⟨⟨n,rfl⟩⟩⟩)
  refine (IH.out _).mono ?_;rintro e w1 ⟨v1,rfl,hR1,hB1⟩;have HB:=Lib.hid (Bl (g:=w.heap.size) (o:=.cells #[.int .u8 0,.slice none 0 0] 96) (by repeat (first | (refine Ab.heap_new ?_;simp;done) | refine B3 ?_ _ | refine BH ?_ _)) hB1);have HT:=Lib.hid (Bl (g:=w.heap.size+1) (o:=.cells #[.int .u8 c,.slice none 0 0] 96) (by repeat (first | (refine Ab.heap_new ?_;simp;done) | refine B3 ?_ _ | refine BH ?_ _)) hB1);have B0:=Lib.hid (show Below w.heap.size w w1 from Ez (B:=w.heap.size) (by repeat (first | exact WG _ _ | apply Ad | apply Ac | apply Ae)) (by simp;omega) hB1);have hz:w.heap.size<w1.heap.size:=Dp HB.out;have hz1:w.heap.size+1<w1.heap.size:=Dp HT.out;have p0:w1.cell? ⟨w.heap.size,0,none⟩=some (.int .u8 0):=Ak HB.out 0;have p1:w1.cell? ⟨w.heap.size,1,none⟩=some (.slice none 0 0):=Ak HB.out 1;have p2:w1.cell? ⟨w.heap.size+1,0,none⟩=some (.int .u8 c):=Ak HT.out 0;have p3:w1.cell? ⟨w.heap.size+1,1,none⟩=some (.slice none 0 0):=Ak HT.out 1;have q2:w1.frozen? ⟨w.heap.size,0,none⟩=false:=AD HB.out 0;have q3:w1.frozen? ⟨w.heap.size,1,none⟩=false:=AD HB.out 1;obtain ⟨A1,k1,rfl⟩:=Kd.R_slice hR1;clear hR1 hB1
  go_wp2_with (go_at_call 241;refine (CQ.calls _ _ _ _ _ HQ.out).mono ?_;rintro e w2 ⟨rfl,⟨⟨m,rfl⟩⟩⟩)
  refine bodyPost_ret (Ff rfl _ _ w.heap.size 96 #[.int .u8 c,.slice none 0 0] (0,0) _ rfl (Ce (Ce (BH (B3 HB.out _) _) 0 _ rfl) 1 _ rfl) Tryz.underlying96 rfl (by kernel_rfl)) rfl ?_;exact ⟨_,rfl,Kd.R_nil _ _ _ _ _,by repeat (first | exact B0.out | apply Ad | apply Ac | apply Ae | refine C6 ?_ (Wn _))⟩
theorem Ab.at_two (a0:ByteArray) (w:World) (hs:a0.size<=60) (h0:0<a0.size) (c:Int) (hb:∀ h:0<a0.size,((a0[0]'h).toNat:Int)=c) (u:Int) (hw:Br.f c=some u) (hu:decide (0<=u)=false)
  (e5:(c==45)=false) (e6:(c==64)=false) (e7:decide (50<=c)=false) (e8:(c != 40)=false) (t1:Int) (t2:List S96) (t3:ByteArray)
  (ih:∀ w,Calls Tryz.prog 176 #[.string (a0.extract 1 a0.size)] w (Ab.Post (t1,t2,t3,true) w)) (l1:ByteArray) (hq:CQ.f t3 ⟨#[43]⟩=some (l1,true))
  (u1:Int) (u2:List S96) (u3:ByteArray) (u4:Bool) (ih2:∀ w,Calls Tryz.prog 176 #[.string l1] w (Ab.Post (u1,u2,u3,u4) w)) (l2:ByteArray) (q2:Bool) (hq2:CQ.f u3 ⟨#[41]⟩=some (l2,q2)) :
  Calls Tryz.prog 176 #[.string a0] w (Ab.Post (c,[⟨t1,t2⟩,⟨u1,u2⟩],l2,u4&&q2) w):=by
 have hu34:=Tryz.underlying96;have hd:a0.toList.isEmpty=false:=Ab.full h0;have HW:=Lib.hid hw;have IH:=Lib.hid ih;have IH2:=Lib.hid ih2;have HQ:=Lib.hid hq;have HQ2:=Lib.hid hq2;clear hw ih hq ih2 hq2;cases u4
 all_goals
  go_enter Tryz.func176,Tryz.ntmps176
  go_wp2_with (go_at_call 93;refine (Br.calls _ _ _ HW.out).mono ?_;rintro e w1 ⟨rfl,⟨⟨n,rfl⟩⟩⟩)
  refine (IH.out _).mono ?_;rintro e w1 ⟨v1,rfl,hR1,hB1⟩;have HB:=Lib.hid (Bl (g:=w.heap.size) (o:=.cells #[.int .u8 0,.slice none 0 0] 96) (by repeat (first | (refine Ab.heap_new ?_;simp;done) | refine B3 ?_ _ | refine BH ?_ _)) hB1);have HT:=Lib.hid (Bl (g:=w.heap.size+1) (o:=.cells #[.int .u8 c,.slice none 0 0] 96) (by repeat (first | (refine Ab.heap_new ?_;simp;done) | refine B3 ?_ _ | refine BH ?_ _)) hB1);have B0:=Lib.hid (show Below w.heap.size w w1 from Ez (B:=w.heap.size) (by repeat (first | exact WG _ _ | apply Ad | apply Ac | apply Ae)) (by simp;omega) hB1);have hz:w.heap.size<w1.heap.size:=Dp HB.out;have hz1:w.heap.size+1<w1.heap.size:=Dp HT.out;obtain ⟨A1,k1,rfl⟩:=Kd.R_slice hR1;have HR1:=Lib.hid hR1;clear hR1 hB1
  go_wp2_with (go_at_call 241;refine (CQ.calls _ _ _ _ _ HQ.out).mono ?_;rintro e w2 ⟨rfl,⟨⟨m,rfl⟩⟩⟩)
  refine (IH2.out _).mono ?_;rintro e w2 ⟨v2,rfl,hR2,hB2⟩;have HB2:=Lib.hid (Bl (BH (B3 HB.out _) _) hB2);have HT2:=Lib.hid (Bl (BH (B3 HT.out _) _) hB2);have HK:=Lib.hid (Bl (BH (heap_alloc_new w1 (.cells #[.int .u8 t1,.slice A1 t2.length k1] 96)) _) hB2);have HW2:=Lib.hid hB2;have B2:=Lib.hid (Ez (B:=w.heap.size) (Ac (Ad B0.out _) _) (by simp;omega) hB2);have hz2:w.heap.size<w2.heap.size:=Dp HB2.out;have hz3:w.heap.size+1<w2.heap.size:=Dp HT2.out;have hz4:w1.heap.size<w2.heap.size:=Dp HK.out;have p0:w2.cell? ⟨w.heap.size,0,none⟩=some (.int .u8 0):=Ak HB2.out 0;have p1:w2.cell? ⟨w.heap.size,1,none⟩=some (.slice none 0 0):=Ak HB2.out 1;have p2:w2.cell? ⟨w.heap.size+1,0,none⟩=some (.int .u8 c):=Ak HT2.out 0;have p3:w2.cell? ⟨w.heap.size+1,1,none⟩=some (.slice none 0 0):=Ak HT2.out 1;have p4:w2.cell? ⟨w1.heap.size,0,none⟩=some (.int .u8 t1):=Ak HK.out 0;have p5:w2.cell? ⟨w1.heap.size,1,none⟩=some (.slice A1 t2.length k1):=Ak HK.out 1;have r2:w2.frozen? ⟨w.heap.size,0,none⟩=false:=AD HB2.out 0;have r3:w2.frozen? ⟨w.heap.size,1,none⟩=false:=AD HB2.out 1;have r4:w2.frozen? ⟨w.heap.size+1,1,none⟩=false:=AD HT2.out 1;obtain ⟨A2,k2,rfl⟩:=Kd.R_slice hR2;have HR2:=Lib.hid hR2;clear hR2 hB2
  go_wp2_with (go_at_call 241;refine (CQ.calls _ _ _ _ _ HQ2.out).mono ?_;rintro e w3 ⟨rfl,⟨⟨m2,rfl⟩⟩⟩)
  refine bodyPost_ret (Ff rfl _ _ w.heap.size 96 #[.int .u8 c,.slice (some ⟨w2.heap.size+1,0,none⟩) 2 2] (0,0) _ rfl (B3 (Ce (Ce (E5 (BH (B3 HB2.out _) _) (by simp) _) 0 _ rfl) 1 _ rfl) _) Tryz.underlying96 rfl (by kernel_rfl)) rfl ?_;refine ⟨_,rfl,Ab.row_two (v:=.slice A1 t2.length k1) (u:=.slice A2 u2.length k2) ?_ (by omega) (Ab.kids_move HR1.out (by simp;omega) (λk hk hlt=>?_) (by omega)) (Ab.kids_move HR2.out (by simp;omega) (λk hk hlt=>?_) (by omega)),?_⟩
  ·repeat (first | (refine Ab.heap_new ?_;simp;done) | refine B3 ?_ _)
  ·simp at hk;rw [Below.heap_alloc _ _ _ (by simp;omega),Below.heap_setCell _ _ _ _ (by simp;omega),Below.heap_setCell _ _ _ _ (by simp;omega),Below.heap_setCell _ _ _ _ (by simp;omega)];refine (Below.heap_alloc w2 _ k (by omega)).trans ((HW2.out.block k (by simp;omega)).trans (Below.heap_alloc w1 _ k (by omega)))
  ·simp at hk;rw [Below.heap_alloc _ _ _ (by simp;omega),Below.heap_setCell _ _ _ _ (by simp;omega),Below.heap_setCell _ _ _ _ (by simp;omega),Below.heap_setCell _ _ _ _ (by simp;omega)];exact Below.heap_alloc w2 _ k (by omega)
  ·exact Ad (C6 (C6 (C6 (Ac (Ad B2.out _) _) (by omega)) (Wn _)) (Wn _)) _
theorem Ab.g_size:∀ (k:Nat) (s:ByteArray),(Ab.g k s).2.2.1.size<=s.size/\((Ab.g k s).2.2.2=true->(Ab.g k s).2.2.1.size<s.size):=by
 intro k
 have hcut:∀ c l,(Ab.cut c l).1.size<=l.size/\((Ab.cut c l).2=true->(Ab.cut c l).1.size<l.size):=by
  intro c l;unfold Ab.cut;split
  ·next h=>simp only [ByteArray.size_extract];omega
  ·exact ⟨Wn _,λh=>by simp at h⟩
 induction k with
 | zero=>intro s;exact ⟨Wn _,λh=>by simp [Ab.g] at h⟩
 | succ k ih=>
  intro s;have h1:=ih (s.extract 1 s.size);have h2:=hcut 43 (Ab.g k (s.extract 1 s.size)).2.2.1;have h3:=ih (Ab.cut 43 (Ab.g k (s.extract 1 s.size)).2.2.1).1;have h4:=hcut 41 (Ab.g k (Ab.cut 43 (Ab.g k (s.extract 1 s.size)).2.2.1).1).2.2.1;have hx:(s.extract 1 s.size).size=s.size-1:=by simp only [ByteArray.size_extract];omega
  unfold Ab.g;split
  ·exact ⟨Wn _,λh=>by simp at h⟩
  ·split
   ·simp only [hx];omega
   ·split
    ·simp only [];refine ⟨by omega,λh=>?_⟩;have:=h1.2 h;omega
    ·split
     ·simp only [hx];exact ⟨by omega,λh=>by simp at h⟩
     ·split
      ·simp only [hx];exact ⟨by omega,λh=>by simp at h⟩
      ·simp only [Bool.and_eq_true];refine ⟨by omega,λh=>?_⟩;have:=h4.2 h.2;omega
theorem Ab.g_succ (k:Nat) (s:ByteArray):Ab.g (k+1) s =
  if s.size=0 then (0,[],s,false)
  else if bt s 0=101\/bt s 0=110\/bt s 0=119\/bt s 0=115 then (bt s 0,[],s.extract 1 s.size,true)
  else if bt s 0=45\/bt s 0=64\/(50<=bt s 0/\bt s 0<=57) then
   (bt s 0,[⟨(Ab.g k (s.extract 1 s.size)).1,(Ab.g k (s.extract 1 s.size)).2.1⟩],(Ab.g k (s.extract 1 s.size)).2.2.1,(Ab.g k (s.extract 1 s.size)).2.2.2)
  else if bt s 0≠40 then (bt s 0,[],s.extract 1 s.size,false)
  else if (Ab.g k (s.extract 1 s.size)).2.2.2=false\/(Ab.cut 43 (Ab.g k (s.extract 1 s.size)).2.2.1).2=false then (bt s 0,[],s.extract 1 s.size,false)
  else
   (bt s 0,[⟨(Ab.g k (s.extract 1 s.size)).1,(Ab.g k (s.extract 1 s.size)).2.1⟩,⟨(Ab.g k (Ab.cut 43 (Ab.g k (s.extract 1 s.size)).2.2.1).1).1,(Ab.g k (Ab.cut 43 (Ab.g k (s.extract 1 s.size)).2.2.1).1).2.1⟩],
    (Ab.cut 41 (Ab.g k (Ab.cut 43 (Ab.g k (s.extract 1 s.size)).2.2.1).1).2.2.1).1,
    (Ab.g k (Ab.cut 43 (Ab.g k (s.extract 1 s.size)).2.2.1).1).2.2.2&&(Ab.cut 41 (Ab.g k (Ab.cut 43 (Ab.g k (s.extract 1 s.size)).2.2.1).1).2.2.1).2):=rfl
theorem Ab.reads:∀ (k:Nat) (s:ByteArray),s.size<=60->s.size<k->∀ w,Calls Tryz.prog 176 #[.string s] w (Ab.Post (Ab.g k s) w):=by
 intro k
 induction k with
 | zero=>intro s _ hk w;omega
 | succ k ih=>
  intro s hs hk w;rw [Ab.g_succ];by_cases h0:s.size=0
  ·rw [if_pos h0];refine Ab.at_end s w ?_;rw [Lib.toList_data];have:=FZ s;exact List.eq_nil_of_length_eq_zero (by omega)
  ·rw [if_neg h0];have h0':0<s.size:=by omega
   have hb:∀ h:0<s.size,((s[0]'h).toNat:Int)=bt s 0:=Qo s 0;have hr:=Mu s 0;have hw:=Ab.way_is (bt s 0) hr.1 hr.2;have hx:(s.extract 1 s.size).size=s.size-1:=by simp only [ByteArray.size_extract];omega
   have ih1:=ih (s.extract 1 s.size) (by omega) (by omega);by_cases hc:bt s 0=101\/bt s 0=110\/bt s 0=119\/bt s 0=115
   ·rw [if_pos hc];refine Ab.at_leaf s w hs h0' (bt s 0) hb _ hw (Wo ?_);unfold Ab.way;rcases hc with hc | hc | hc | hc<;>rw [hc]<;>decide
   ·rw [if_neg hc]
    have hu:decide (0<=Ab.way (bt s 0))=false:=by
     unfold Ab.way;rw [if_neg (by omega),if_neg (by omega),if_neg (by omega),if_neg (by omega)];rfl
    by_cases hd:bt s 0=45\/bt s 0=64\/(50<=bt s 0/\bt s 0<=57)
    ·rw [if_pos hd];refine Ab.at_one' s w hs h0' (bt s 0) hb _ hw hu ?_ (Ab.g k (s.extract 1 s.size)) ih1;by_cases q1:bt s 0=45
     ·exact .inl (by simp [q1])
     ·by_cases q2:bt s 0=64
      ·exact .inr (.inl ⟨by simp [q1],by simp [q2]⟩)
      ·exact .inr (.inr ⟨by simp [q1],by simp [q2],Wo (by omega),Wo (by omega)⟩)
    ·rw [if_neg hd];by_cases he:bt s 0≠40
     ·rw [if_pos he];refine Ab.at_not s w hs h0' (bt s 0) hb _ hw hu (by simp;omega) (by simp;omega) ?_ (by simp [he]);by_cases h5:50<=bt s 0
      ·exact .inr ⟨Wo h5,Wp (by omega)⟩
      ·exact .inl (Wp h5)
     ·rw [if_neg he];have hq:=Ab.cut_is 43 (Ab.g k (s.extract 1 s.size)).2.2.1;have e40:(bt s 0 != 40)=false:=by simp at he;simp [he]
      by_cases hf:(Ab.g k (s.extract 1 s.size)).2.2.2=false\/(Ab.cut 43 (Ab.g k (s.extract 1 s.size)).2.2.1).2=false
      ·rw [if_pos hf];refine Ab.at_mid s w hs h0' (bt s 0) hb _ hw hu (by simp;omega) (by simp;omega) (Wp (by omega)) e40 (Ab.g k (s.extract 1 s.size)).1 (Ab.g k (s.extract 1 s.size)).2.1 (Ab.g k (s.extract 1 s.size)).2.2.1 (Ab.g k (s.extract 1 s.size)).2.2.2 ih1 _ _ hq ?_
       cases hg:(Ab.g k (s.extract 1 s.size)).2.2.2 with
       | false=>exact .inl rfl
       | true=>rw [hg] at hf;exact .inr ⟨rfl,hf.resolve_left (by simp)⟩
      ·rw [if_neg hf];have g1:(Ab.g k (s.extract 1 s.size)).2.2.2=true:=by simpa using λh=>hf (.inl h)
       have g2:(Ab.cut 43 (Ab.g k (s.extract 1 s.size)).2.2.1).2=true:=by simpa using λh=>hf (.inr h)
       have hz1:=(Ab.g_size k (s.extract 1 s.size)).1
       have hz2:(Ab.cut 43 (Ab.g k (s.extract 1 s.size)).2.2.1).1.size<=(Ab.g k (s.extract 1 s.size)).2.2.1.size:=by
        unfold Ab.cut;split
        ·simp only [ByteArray.size_extract];omega
        ·exact Wn _
       refine Ab.at_two s w hs h0' (bt s 0) hb _ hw hu (by simp;omega) (by simp;omega) (Wp (by omega)) e40 (Ab.g k (s.extract 1 s.size)).1 (Ab.g k (s.extract 1 s.size)).2.1 (Ab.g k (s.extract 1 s.size)).2.2.1 ?_ (Ab.cut 43 (Ab.g k (s.extract 1 s.size)).2.2.1).1 ?_ _ _ _ _ (ih _ (by omega) (by omega)) _ _ (Ab.cut_is 41 _)
       ·rw [<- g1];exact ih1
       ·rw [hq,<- g2];rfl
theorem Ab.calls (a0:ByteArray) (r1:Int) (r2:List S96) (r3:ByteArray) (r4:Bool) (w:World) (h:Ab.f a0=some (r1,r2,r3,r4)) :
  Calls Tryz.prog 176 #[.string a0] w λe w'=>∃ v1_:Value,e=.returned (.tuple #[.agg #[.int .u8 r1,v1_],.string r3,.bool r4])/\Kd.R k96 96 w' w.heap.size (λ_=>True) v1_ r2/\Below w.heap.size w w':=by
 simp only [Ab.f] at h;split at h
 ·next hs=>
  injection h with h;have hh:=Ab.reads (a0.size+1) a0 hs (by omega) w;rw [h] at hh;exact hh
 ·simp at h
theorem strings_Repeat.calls (a0:ByteArray) (a1:Int) (r:ByteArray) (w:World) (h:strings_Repeat.f a0 a1=some r) :
  Calls Tryz.prog 175 #[.string a0,.int .i64 a1] w λe w'=>e=.returned (.string r)/\Below w.heap.size w w':=by
 unfold strings_Repeat.f at h;split at h
 ·next hc=>
  injection h with h;subst h;obtain ⟨c,rfl⟩:=Int.eq_ofNat_of_zero_le hc.1;have hb:a0.size*c<=1048576*100:=Nat.mul_le_mul hc.2.2 (by omega);exact Go.Proofs.YtlgojeodceiglaaGreatDoor.Shelf.Tryz.strings_Repeat a0 c w (by omega) (by omega)
 ·simp at h
theorem strings_Join.spot {w:World} {a:Addr} {v:Value} (h:w.cell? a=some v):a.spot=none:=by
 unfold World.cell? at h;split at h
 ·split at h
  ·simp at h
  ·next hs=>simpa using hs
 ·simp at h
theorem strings_Join.calls (A0:Option Addr) (c0:Nat) (l0:List ByteArray) (a1:ByteArray) (r:ByteArray) (w:World) (hr0:Kd.C Kd.string w A0 l0.length l0) (hc0:l0.length<=c0) (h:strings_Join.f l0 a1=some r) :
  Calls Tryz.prog 95 #[.slice A0 l0.length c0,.string a1] w λe w'=>e=.returned (.string r)/\Below w.heap.size w w':=by
 unfold strings_Join.f at h;split at h
 ·next hc=>
  injection h with h;subst h
  match l0,hr0,hc0,hc with
  | [],_,_,_=>
   refine (Go.Proofs.YtlgojeodceiglaaGreatDoor.Shelf.Tryz.strings_Join_none A0 c0 a1 w).mono ?_;rintro e w' ⟨rfl,rfl⟩
   exact ⟨rfl,WG _ _⟩
  | x::xs,hr0,hc0,hc=>
   obtain ⟨ad,rfl,h0⟩:=Kd.at_string hr0 0 (by omega) (by simp);have hsp:=strings_Join.spot h0;have hblk:=World.block_lt_of_cell? _ _ h0;obtain ⟨bk,o,sp⟩:=ad;have hsp:sp=none:=hsp;subst hsp;refine (Go.Proofs.YtlgojeodceiglaaGreatDoor.Shelf.Tryz.strings_Join bk o c0 (x::xs) a1 w (λj y hj=>?_) hblk (by omega) hc0 (by omega)).mono ?_
   ·obtain ⟨hjl,hje⟩:=List.getElem?_eq_some_iff.mp hj;obtain ⟨ad,e,h1⟩:=Kd.at_string hr0 (j:Int) (by omega) (by omega);injection e with e;subst e
    have e2:rdOf ByteArray.empty (x::xs) (j:Int)=y:=by
     unfold rdOf;rw [Rr,WI,hj];rfl
    rw [e2,Rr] at h1
    have ha:(⟨bk,o,none⟩:Addr).add j=⟨bk,o+j,none⟩:=by
     unfold Addr.add;split
     ·next h0=>rw [h0];rfl
     ·rfl
    rw [ha] at h1;exact h1
   ·rintro e w' ⟨rfl,hb⟩;exact ⟨rfl,hb⟩
 ·simp at h
theorem CR.row {w:World} {g base:Nat} (xs:List ByteArray) (hl:xs.length<=8388608) (h:w.heap[g]?=some (.cells (xs.map Value.string).toArray 9 (0,0))) (hb:base<=g):Kd.R Kd.string 9 w base (λ_=>True) (.slice (some ⟨g,0,none⟩) xs.length xs.length) xs:=
 Kd.R_of_own (xs:=xs) ⟨by simp [encs],Or.inr ⟨g,xs.length,(xs.map Value.string).toArray,rfl,hb,h,Wn _,by unfold maxLen;omega,by simp,by
  rw [Nat.mul_one];show List.take xs.length (xs.map Value.string)=xs.map Value.string
  exact List.take_of_length_le (by simp)⟩⟩ (λ_ _=>trivial)
theorem CR.calls (a0:ByteArray) (a1:ByteArray) (r:List ByteArray) (w:World) (h:CR.f a0 a1=some r) :
  Calls Tryz.prog 16 #[.string a0,.string a1] w λe w'=>∃ v0_:Value,e=.returned (v0_)/\Kd.R Kd.string 9 w' w.heap.size (λ_=>True) v0_ r/\Below w.heap.size w w':=by
 unfold CR.f at h;split at h
 ·next hc=>
  obtain ⟨c,rfl⟩:=Lib.one_byte a1 hc.1;injection h with h;have hsz:=hc.2;have h1:1<=(⟨#[c]⟩:ByteArray).size:=Wn 1;have hlen:=Lib.splitB_all (⟨#[c]⟩:ByteArray) h1 0 _ a0 rfl;have hle:=Lib.countB_le (⟨#[c]⟩:ByteArray) h1 a0.size a0 (Wn _)
  have hC:=(Any.strings_Count_one Go.Proofs.YtlgojeodceiglaaGreatDoor.Shelf.Tryz.lays138 a0 c w).mono (R':=λe w'=>e=.returned (.int .i64 (Lib.countB a0 ⟨#[c]⟩))/\w'=w) λe w' ⟨he,hw⟩=>⟨by
   rw [he];show _=Ending.returned (Value.int .i64 ((Lib.count a0.data.toList [c]:Nat):Int));rw [Lib.count_one]
   rfl,hw⟩
  have hI:∀ (x:ByteArray) (cs:Array Value),x.size<=a0.size->Calls Tryz.prog 85 #[.string x,.string ⟨#[c]⟩] (w.alloc (.cells cs 9)) λe w'=>e=.returned (.int .i64 (Lib.indexB x ⟨#[c]⟩))/\w'=w.alloc (.cells cs 9):=λx cs _=>
   (Any.strings_Index_one Go.Proofs.YtlgojeodceiglaaGreatDoor.Shelf.Tryz.lays143 x c _).mono λe w' ⟨he,hw⟩=>⟨by
    rw [he];show _=Ending.returned (Value.int .i64 (Lib.index x.data.toList [c]))
    rw [Lib.index_one],hw⟩
  have core:=Any.strings_genSplit_core Go.Proofs.YtlgojeodceiglaaGreatDoor.Shelf.Tryz.lays221 (by kernel_rfl) a0 ⟨#[c]⟩ 0 (-1) (Lib.countB a0 ⟨#[c]⟩+1) w (by omega) h1 (WC _) hI hC (by decide) (by decide) (by rw [if_pos (by decide)];omega);rw [Nat.add_sub_cancel,hlen] at core;have e2:Lib.cellsOf (Lib.splitB ⟨#[c]⟩ 0 (Lib.countB a0 ⟨#[c]⟩) a0) (Lib.countB a0 ⟨#[c]⟩+1)=((Lib.splitB ⟨#[c]⟩ 0 (Lib.countB a0 ⟨#[c]⟩) a0).map Value.string).toArray:=by rw [<- hlen];exact Lib.cellsOf_full _
  rw [e2,h] at core;rw [h] at hlen;have hn:Lib.countB a0 ⟨#[c]⟩+1=r.length:=hlen.symm;rw [hn] at core;have HC:=Aa.mk core;have HL:=Aa.mk (show r.length<=8388608 by omega);clear core hC hI e2 hn hlen hle hsz h1 h hc;go_enter Tryz.func16,Tryz.ntmps16
  go_wp2_with (first | (go_at_call 26;refine HC.out.mono ?_;rintro e w1 ⟨rfl,hw⟩;subst hw))
  go_ret;exact ⟨_,rfl,CR.row r HL.out (heap_alloc_new w _) (Wn _),Ad (WG _ _) _⟩
 ·simp at h
theorem Aj.calls (k:Nat) (A0:Option Addr) (c0:Nat) (l0:List Int) (r:List Int) (w:World) (hr0:Kd.C (Kd.int .i64) w A0 l0.length l0) (hc0:l0.length<=c0) (h:Aj.f k l0=some r) :
  Calls Tryz.prog 41 #[.slice A0 l0.length c0] w λe w'=>∃ v0_:Value,e=.returned (v0_)/\Kd.R (Kd.int .i64) 3 w' w.heap.size (λ_=>True) v0_ r/\Below w.heap.size w w':=by
 unfold Aj.f at h;by_cases h0:0<l0.length
 ·rw [if_pos h0] at h;by_cases h1:l0.length<1000
  ·rw [if_pos h1] at h;obtain rfl:=AS h;have HR0:=Aa.mk hr0;have HC0:=Aa.mk hc0;have LM:=Aa.mk h1;obtain ⟨ad,e1,hx⟩:=Kd.at_int hr0 0 (by omega) (by omega);subst e1;clear hr0 hc0 h h1 hx;have HB:=Aa.mk (WG w.heap.size w);have he:∀ W:World,(binOp .eql 32 (.slice (some ad) l0.length c0) (.slice none 0 0)).run Tryz.prog W=.ok (.bool false) W:=λ_=>rfl;go_enter Tryz.func41,Tryz.ntmps41
   go_wp2_with (first | ((with_reducible refine Er (N:=5) rfl ?_);(try (refine Ka (by rfl) ?_;dsimp only));refine Kd.R_lit (Kd.int .i64) _ 3 ?hg (N:=5) ?hd (xs:=([]:List Int)) (inner:=[]) (ok:=λ_=>True) (okp:=λ_=>True) ?hr ?hp (λ_ hk=>hk) trivial (WG _ _) (Wn _) (by simp) ?_;(case hd=>rfl);(case hg=>rfl);(case hr=>first | (go_simp;done) | (go_simp;rfl));(case hp=>exact (Reps.none _ _));intro v129 w24 ho25 hb hg_ hnew_;clear hg_ hnew_;have n0_:=Aa.mk (Kd.R_lower (Kd.R_newM (M:=λk_=>(w.heap.size<=k_)) ho25 (CO HB.out) (λk_ h_=>h_)) (CO HB.out));have n1_:=Aa.mk (Bt HB.out hb);clear HB;have HO130:=n0_;have HB:=n1_;clear n0_ n1_;clear hb ho25) | ((with_reducible refine DD (b:=.append) (xs:=#[.tmp 5,.tmp 6]) rfl ?_);(try (refine Ka (by rfl) ?_;dsimp only));at_builtin;refine Kd.R_append_rows (Kd.int .i64) (w0:=w) w.heap.size rfl (.tmp 5) (.tmp 6) 32 3 (.int .i64 0) 8 rfl Tryz.underlying32 info3 rfl (by decide) (by omega) v129 [] l0 _ _ _ (λ_=>True) (λ_=>False) rfl rfl ?aO ?aR (λ_ _ h=>h) (λ_ h=>h.elim) ?aF ?aB ?aS ?aL ?_;(case aR=>repeat (first | exact (Kd.C_below HR0.out HB.out) | (with_reducible refine Kd.C_alloc ?_ _) | (with_reducible refine Kd.C_drewN ?_ _) | (with_reducible refine Kd.C_drew ?_)));(case aB=>exact (by repeat (first | exact HB.out | apply Ad | apply Ac | apply Ae)));(case aF=>exact (λk_ hk=>trivial));(case aO=>exact (by (with_reducible repeat (first | apply Kd.R_alloc | apply Kd.R_drewN | apply Kd.R_drew));exact Kd.R_mono HO130.out (λ_ hk=>trivial)));(case aS=>exact (CO (by repeat (first | exact HB.out | apply Ad | apply Ac | apply Ae))));(case aL=>have:=LM.out;simp;omega);intro v132 w26 ho hb hg hat;have n0_:=Aa.mk (hb);have n1_:=Aa.mk (ho);clear HB;clear HO130;have HB:=n0_;have HO133:=n1_;clear n0_ n1_;clear ho hb hg hat))
   go_ret;exact ⟨_,rfl,HO133.out,HB.out⟩
  ·rw [if_neg h1] at h;exact absurd h (by simp)
 ·rw [if_neg h0] at h;exact absurd h (by simp)
theorem strconv_Itoa.calls (a0:Int) (r:ByteArray) (w:World) (h:strconv_Itoa.f a0=some r) (htab_:TabW w) :
  Calls Tryz.prog 21 #[.int .i64 a0] w λe w'=>e=.returned (.string r)/\Below w.heap.size w w':=by
 unfold strconv_Itoa.f at h;split at h
 ·next hc=>
  injection h with h;subst h;refine (Go.Proofs.YtlgojeodceiglaaGreatDoor.Shelf.Tryz.strconv_Itoa a0 (by omega) (by omega) w htab_).mono ?_;rintro e w' ⟨rfl,k,os,rfl⟩;exact ⟨rfl,⟨rfl,rfl,rfl,by simp,λq hq=>Go.Sort.heap_grow_old _ _ (by simpa using hq)⟩⟩
 ·simp at h

end
section
def Nv (ok:Nat->Prop) (w:World):List BV->List Value->Prop
 | [],[]=>True
 | x::xs,v::vs=>cvr ok w x v/\Nv ok w xs vs
 | _,_=>False
theorem KX {ok:Nat->Prop} {w:World}:∀ {ins:List BV} {vs:List Value},vs.length=ins.length->(∀ (k:Nat) (x:BV) (u:Value),ins[k]?=some x->vs[k]?=some u->cvr ok w x u)->Nv ok w ins vs
 | [],[],_,_=>trivial
 | x::xs,v::vs,h,ha=>⟨ha 0 x v rfl rfl,KX (by simpa using h) λk x u h1 h2=>ha (k+1) x u h1 h2⟩
 | [],_::_,h,_=>by simp at h
 | _::_,[],h,_=>by simp at h
theorem Ct.mk1 {f:Nat} {fn:Func} {ins res:List BV} (hf:Tryz.prog.funcs[f]?=some fn) (hn:(fn.name== "runtime.NumGoroutine")=false) (hb:fn.body.isSome=true)
  (run:∀ (l:List Value) (w:World) (ok:Nat->Prop),TabW w->Nv ok w ins l->Calls Tryz.prog f l.toArray w λe w'=>∃ v,e=.returned v/\Below w.heap.size w w'/\crvs ok w.heap.size w' res v):Ct f ins res:=
 ⟨⟨fn,hf,hn,hb⟩,λvs w ok ht hs ha=>by
  have h:=run vs.toList w ok ht (KX (by simpa using hs) λk x u h1 h2=>ha k x u h1 (by simpa using h2));simp only [Array.toArray_toList] at h
  exact h.mono λe w' ⟨v,h1,h2,h3⟩=>⟨h2,v,h1,h3⟩⟩
theorem My {τ:Ty} (hτ:τ≠.l) {ok:Nat->Prop} {b:Nat} {w':World} {v:Value} {xs:List τ.A} (h:Kd.R τ.d τ.e w' b (λ_=>True) v xs):crv ok b w' (.o τ xs) v:=
 TY hτ (Kd.R_N h) λk hk=>.inr (Kd.N_base (Kd.R_N h) k hk)
theorem Ox {τ:Ty} {ok:Nat->Prop} {w:World} {v:Value} {xs:List τ.A} (h:cvr ok w (.f τ xs) v):∃ A c,v=.slice A xs.length c/\xs.length<=c/\τ.d.C w A xs.length xs:=by
 obtain ⟨A,c,h1,h2,h3⟩:=h;exact ⟨A,c,h1,h2,Kd.F_now h3⟩
theorem V2 (q:Tq) {ok:Nat->Prop} {b:Nat} {w':World} {v:Value} {x:Int} {xs:List q.S} (h:Kd.R q.k q.e w' b (λ_=>True) v xs):FV.R w' (λk=>ok k\/b<=k) (.k q (q.mk x xs)) (.agg #[.int .u8 x,v]):=by
 obtain ⟨A,c,rfl⟩:=Kd.R_slice h;have h1:=Kd.N_F (Kd.R_N (Kd.R_bound h));have e0:q.f0 (q.mk x xs)=x:=by cases q<;>rfl
 have e1:q.f1 (q.mk x xs)=xs:=by cases q<;>rfl
 refine ⟨A,c,by rw [e0,e1],by rw [e1];exact (Kd.R_reads' h).2.1,?_⟩;rw [e1];exact Kd.F_mono h1 λk hk=>.inr hk.2.1
theorem E6 {ok:Nat->Prop} {b:Nat} {w':World} {x y:BV} {u v:Value} (h1:crv ok b w' x u) (h2:crv ok b w' y v):crvs ok b w' [x,y] (.tuple #[u,v]):=
 ⟨_,rfl,rfl,λk z hz=>by
  rcases k with _ | _ | k
  ·cases hz;exact ⟨_,rfl,h1⟩
  ·cases hz;exact ⟨_,rfl,h2⟩
  ·simp at hz⟩
theorem PZ {ok:Nat->Prop} {b:Nat} {w':World} {x y z:BV} {u v t:Value} (h1:crv ok b w' x u) (h2:crv ok b w' y v) (h3:crv ok b w' z t):crvs ok b w' [x,y,z] (.tuple #[u,v,t]):=
 ⟨_,rfl,rfl,λk z hz=>by
  rcases k with _ | _ | _ | k
  ·cases hz;exact ⟨_,rfl,h1⟩
  ·cases hz;exact ⟨_,rfl,h2⟩
  ·cases hz;exact ⟨_,rfl,h3⟩
  ·simp at hz⟩
theorem Js {w w':World} (h:Drawn0 w w'):Below w.heap.size w w':=by
 obtain ⟨n,rfl⟩:=h;exact Ac (WG _ _) n
theorem Cr.ct {p0:ByteArray} {p1 r0:Int} (h:Cr.f p0 p1=some r0):Ct 170 [.s p0,.y p1] [.i r0]:=by
 refine .mk1 Tryz.func170 rfl rfl λl w ok _ ha=>?_
 match l,ha with
 | [_,_],⟨rfl,rfl,_⟩=>exact (Cr.calls p0 p1 r0 w h).mono λe w' ⟨h1,h2⟩=>⟨_,h1,Js h2,rfl⟩
theorem strings_Repeat.ct {p0:ByteArray} {p1:Int} {r0:ByteArray} (h:strings_Repeat.f p0 p1=some r0):Ct 175 [.s p0,.i p1] [.s r0]:=by
 refine .mk1 Tryz.func175 rfl rfl λl w ok _ ha=>?_
 match l,ha with
 | [_,_],⟨rfl,rfl,_⟩=>exact (strings_Repeat.calls p0 p1 r0 w h).mono λe w' ⟨h1,h2⟩=>⟨_,h1,h2,rfl⟩
theorem strconv_Itoa.ct {p0:Int} {r0:ByteArray} (h:strconv_Itoa.f p0=some r0):Ct 21 [.i p0] [.s r0]:=by
 refine .mk1 Tryz.func21 rfl rfl λl w ok ht ha=>?_
 match l,ha with
 | [_],⟨rfl,_⟩=>exact (strconv_Itoa.calls p0 r0 w h ht).mono λe w' ⟨h1,h2⟩=>⟨_,h1,h2,rfl⟩
theorem strings_Join.ct {p0:List ByteArray} {p1 r0:ByteArray} (h:strings_Join.f p0 p1=some r0):Ct 95 [.f .s p0,.s p1] [.s r0]:=by
 refine .mk1 Tryz.func95 rfl rfl λl w ok _ ha=>?_
 match l,ha with
 | [_,_],⟨h0,rfl,_⟩=>
  obtain ⟨A,c,rfl,h1,h2⟩:=Ox h0
  exact (strings_Join.calls A c p0 p1 r0 w h2 h1 h).mono λe w' ⟨h1,h2⟩=>⟨_,h1,h2,rfl⟩
theorem CR.ct {p0 p1:ByteArray} {r0:List ByteArray} (h:CR.f p0 p1=some r0):Ct 16 [.s p0,.s p1] [.o .s r0]:=by
 refine .mk1 Tryz.func16 rfl rfl λl w ok _ ha=>?_
 match l,ha with
 | [_,_],⟨rfl,rfl,_⟩=>exact (CR.calls p0 p1 r0 w h).mono λe w' ⟨v,h1,h2,h3⟩=>⟨v,h1,h3,My (τ:=.s) (λe=>by cases e) h2⟩
theorem Aj.ct {k:Nat} {p0 r0:List Int} (h:Aj.f k p0=some r0):Ct 41 [.f .i p0] [.o .i r0]:=by
 refine .mk1 Tryz.func41 rfl rfl λl w ok _ ha=>?_
 match l,ha with
 | [_],⟨h0,_⟩=>
  obtain ⟨A,c,rfl,h1,h2⟩:=Ox h0
  exact (Aj.calls k A c p0 r0 w h2 h1 h).mono λe w' ⟨v,h1,h2,h3⟩=>⟨v,h1,h3,My (τ:=.i) (λe=>by cases e) h2⟩
theorem Av.ct {k:Nat} {p0:List Int} {r0:Int} (h:Av.f k p0=some r0):Ct 119 [.f .i p0] [.i r0]:=by
 refine .mk1 Tryz.func119 rfl rfl λl w ok _ ha=>?_
 match l,ha with
 | [_],⟨h0,_⟩=>
  obtain ⟨A,c,rfl,h1,h2⟩:=Ox h0
  exact (Av.calls k A c p0 r0 w h2 h1 h).mono λe w' ⟨h1,h2⟩=>⟨_,h1,Js h2,rfl⟩
theorem Ab.ct {p0:ByteArray} {r0:Int} {s0:List S96} {r1:ByteArray} {r2:Bool} (h:Ab.f p0=some (r0,s0,r1,r2)):Ct 176 [.s p0] [.h (.k .m ⟨r0,s0⟩),.s r1,.b r2]:=by
 refine .mk1 Tryz.func176 rfl rfl λl w ok _ ha=>?_
 match l,ha with
 | [_],⟨rfl,_⟩=>exact (Ab.calls p0 r0 s0 r1 r2 w h).mono λe w' ⟨v,h1,h2,h3⟩=>⟨_,h1,h3,PZ (V2 .m h2) rfl rfl⟩

end
end Go.Proofs.YtlgojeodceiglaaGreatDoor.PFnExactExecute
