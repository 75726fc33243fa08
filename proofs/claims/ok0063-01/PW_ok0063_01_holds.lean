import PyProof.Rows.All
import Wide.All
import OpenK.AllK
import Wide.FinOn
import Lean
import PySem.Challenge.RW_ok0063_01
open PySem PySem.W PyProof.Rows PySem.Calls PySem.Spec
open PySem.Str (ofString)
set_option Elab.async false
set_option maxRecDepth 100000
set_option rowWalk.seconds 0
set_option maxHeartbeats 8000000
set_option linter.all false
namespace Mine
section
local macro_rules | `(tactic| o_head $_)=>`(tactic| skip)
theorem hd:PySem.Challenge.rw_ok0063_01.row.Holds→PySem.Challenge.rw_ok0063_01.row.Holds:=by
  intro h
  k_head
  exact h
end
end Mine
namespace Mine
theorem oe1.{u1} {X1:Sort u1} {p:X1→Prop} {G:Prop} (h:∃ x1,p x1) (k:∀ x1,p x1→G) : G:=h.elim k
theorem oe2.{u1,u2} {X1:Sort u1} {X2:Sort u2} {p:X1→X2→Prop} {G:Prop} (h:∃ x1 x2,p x1 x2) (k:∀ x1 x2,p x1 x2→G) : G:=h.elim fun x1 h=>oe1 h (k x1)
theorem oe3.{u1,u2,u3} {X1:Sort u1} {X2:Sort u2} {X3:Sort u3} {p:X1→X2→X3→Prop} {G:Prop} (h:∃ x1 x2 x3,p x1 x2 x3) (k:∀ x1 x2 x3,p x1 x2 x3→G) : G:=h.elim fun x1 h=>oe2 h (k x1)
theorem oe4.{u1,u2,u3,u4} {X1:Sort u1} {X2:Sort u2} {X3:Sort u3} {X4:Sort u4} {p:X1→X2→X3→X4→Prop} {G:Prop} (h:∃ x1 x2 x3 x4,p x1 x2 x3 x4) (k:∀ x1 x2 x3 x4,p x1 x2 x3 x4→G) : G:=h.elim fun x1 h=>oe3 h (k x1)
theorem oe5.{u1,u2,u3,u4,u5} {X1:Sort u1} {X2:Sort u2} {X3:Sort u3} {X4:Sort u4} {X5:Sort u5} {p:X1→X2→X3→X4→X5→Prop} {G:Prop} (h:∃ x1 x2 x3 x4 x5,p x1 x2 x3 x4 x5) (k:∀ x1 x2 x3 x4 x5,p x1 x2 x3 x4 x5→G) : G:=h.elim fun x1 h=>oe4 h (k x1)
theorem oe6.{u1,u2,u3,u4,u5,u6} {X1:Sort u1} {X2:Sort u2} {X3:Sort u3} {X4:Sort u4} {X5:Sort u5} {X6:Sort u6} {p:X1→X2→X3→X4→X5→X6→Prop} {G:Prop} (h:∃ x1 x2 x3 x4 x5 x6,p x1 x2 x3 x4 x5 x6) (k:∀ x1 x2 x3 x4 x5 x6,p x1 x2 x3 x4 x5 x6→G) : G:=h.elim fun x1 h=>oe5 h (k x1)
theorem oe7.{u1,u2,u3,u4,u5,u6,u7} {X1:Sort u1} {X2:Sort u2} {X3:Sort u3} {X4:Sort u4} {X5:Sort u5} {X6:Sort u6} {X7:Sort u7} {p:X1→X2→X3→X4→X5→X6→X7→Prop} {G:Prop} (h:∃ x1 x2 x3 x4 x5 x6 x7,p x1 x2 x3 x4 x5 x6 x7) (k:∀ x1 x2 x3 x4 x5 x6 x7,p x1 x2 x3 x4 x5 x6 x7→G) : G:=h.elim fun x1 h=>oe6 h (k x1)
theorem oe8.{u1,u2,u3,u4,u5,u6,u7,u8} {X1:Sort u1} {X2:Sort u2} {X3:Sort u3} {X4:Sort u4} {X5:Sort u5} {X6:Sort u6} {X7:Sort u7} {X8:Sort u8} {p:X1→X2→X3→X4→X5→X6→X7→X8→Prop} {G:Prop} (h:∃ x1 x2 x3 x4 x5 x6 x7 x8,p x1 x2 x3 x4 x5 x6 x7 x8) (k:∀ x1 x2 x3 x4 x5 x6 x7 x8,p x1 x2 x3 x4 x5 x6 x7 x8→G) : G:=h.elim fun x1 h=>oe7 h (k x1)
theorem oa2 {a1 a2 G:Prop} (h:a1∧a2) (k:a1→a2→G) : G:=k h.1 h.2
theorem oa3 {a1 a2 a3 G:Prop} (h:a1∧a2∧a3) (k:a1→a2→a3→G) : G:=oa2 h.2 (k h.1)
theorem oa4 {a1 a2 a3 a4 G:Prop} (h:a1∧a2∧a3∧a4) (k:a1→a2→a3→a4→G) : G:=oa3 h.2 (k h.1)
theorem oa5 {a1 a2 a3 a4 a5 G:Prop} (h:a1∧a2∧a3∧a4∧a5) (k:a1→a2→a3→a4→a5→G) : G:=oa4 h.2 (k h.1)
theorem oa6 {a1 a2 a3 a4 a5 a6 G:Prop} (h:a1∧a2∧a3∧a4∧a5∧a6) (k:a1→a2→a3→a4→a5→a6→G) : G:=oa5 h.2 (k h.1)
theorem oa7 {a1 a2 a3 a4 a5 a6 a7 G:Prop} (h:a1∧a2∧a3∧a4∧a5∧a6∧a7) (k:a1→a2→a3→a4→a5→a6→a7→G) : G:=oa6 h.2 (k h.1)
theorem oa8 {a1 a2 a3 a4 a5 a6 a7 a8 G:Prop} (h:a1∧a2∧a3∧a4∧a5∧a6∧a7∧a8) (k:a1→a2→a3→a4→a5→a6→a7→a8→G) : G:=oa7 h.2 (k h.1)
theorem cj0 {p r:Prop} (h:p∧r) : p:=h.1
theorem cj1 {a1 p r:Prop} (h:a1∧p∧r) : p:=h.2.1
theorem cj2 {a1 a2 p r:Prop} (h:a1∧a2∧p∧r) : p:=h.2.2.1
theorem cj3 {a1 a2 a3 p r:Prop} (h:a1∧a2∧a3∧p∧r) : p:=h.2.2.2.1
theorem cj4 {a1 a2 a3 a4 p r:Prop} (h:a1∧a2∧a3∧a4∧p∧r) : p:=h.2.2.2.2.1
theorem cj5 {a1 a2 a3 a4 a5 p r:Prop} (h:a1∧a2∧a3∧a4∧a5∧p∧r) : p:=h.2.2.2.2.2.1
theorem cj6 {a1 a2 a3 a4 a5 a6 p r:Prop} (h:a1∧a2∧a3∧a4∧a5∧a6∧p∧r) : p:=h.2.2.2.2.2.2.1
theorem cj7 {a1 a2 a3 a4 a5 a6 a7 p r:Prop} (h:a1∧a2∧a3∧a4∧a5∧a6∧a7∧p∧r) : p:=h.2.2.2.2.2.2.2.1
theorem cj8 {a1 a2 a3 a4 a5 a6 a7 a8 p r:Prop} (h:a1∧a2∧a3∧a4∧a5∧a6∧a7∧a8∧p∧r) : p:=h.2.2.2.2.2.2.2.2.1
theorem cj9 {a1 a2 a3 a4 a5 a6 a7 a8 a9 p r:Prop} (h:a1∧a2∧a3∧a4∧a5∧a6∧a7∧a8∧a9∧p∧r) : p:=h.2.2.2.2.2.2.2.2.2.1
theorem sk10 {a1 a2 a3 a4 a5 a6 a7 a8 a9 a10 r:Prop} (h:a1∧a2∧a3∧a4∧a5∧a6∧a7∧a8∧a9∧a10∧r) : r:=h.2.2.2.2.2.2.2.2.2.2
theorem ltid {a b:Nat} (h:a<b) : a<b:=h
end Mine
namespace Mine
section
abbrev en (w:World) (x:String) (t:Tok) (v:Value) : DictEntry:=⟨PyData.keyHash w.params (ofString x),.str (ofString x) t,v⟩
end
section
inductive Take (q:Addr × Obj) : List (Addr × Obj)→List (Addr × Obj)→Prop
  | head {r} : Take q (q::r) r
  | tail {p r r'} : Take q r r'→Take q (p::r) (p::r')
end
section
inductive Pick:List (Addr × Obj)→List (Addr × Obj)→List (Addr × Obj)→Prop
  | nil {l} : Pick l [] l
  | cons {q l l' led rest} : Take q l l'→Pick l' led rest→Pick l (q::led) rest
end
section
def Off (wr:List Addr) (rest:List (Addr × Obj)) : Prop:=∀ q∈rest,q.1 ∉ wr
end
section
def Spec (w:World) (f:Addr) (args:List Value) (dz:Nat) (led:List (Addr × Obj)) (wr:List Addr) (Post:Value→List (Addr × Obj)→Prop) : Prop :=
  ∀ (p:Program) (loose:List Str) (mean:ExcName→Option Value) (mg mb:Str→Option Value) (dp un:Nat) (gd:Option (List Code)) (cn:Str) (cs:Scope) (a:Addr) (ccd:Value) (cl:List (Str × Addr)) (outer:List Env) (A₀:Around) (base h₀:Heap) (L:Addr) (m:Str→Option Value) (rest:List (Addr × Obj)) (s:Shared) (Q E:Value→Shared→Prop),
    Below A₀ base outer h₀→Fr h₀ L s.heap m→(Mine.hd.heap_1 w.params).In h₀→News h₀ L s.heap (led++rest)→Off wr rest→Top p loose mean mg mb h₀→cs.kind=.function→dp+dz<recursionLimit→un+8 * dz<cLine →
    (∀ v led' h' tk',Post v led'→Fr h₀ L h' m→News h₀ L h' (led'++rest)→Q v { s with heap:=h',toks:=tk' }) →
    wpAny (model PySem.Challenge.rw_ok0063_01.prog w) (ktrTop dp un gd cn cs L a ccd cl outer) (call (.ref f) args) Q E s
end
section
abbrev gapD (w:World) (t1 t2 t3 t4:Tok) (room:Value) (c:Addr) (gs ge:Value) : Obj:=dictOf [en w "room" t1 room,en w "cells" t2 (.ref c),en w "gap_start" t3 gs,en w "gap_end" t4 ge] 4
end
section
def SpecF (w:World) (f:Addr) (args:List Value) (dz:Nat) (led:List (Addr × Obj)) (wr:List Addr) (Post:Value→List (Addr × Obj)→List Addr→Prop) : Prop :=
  ∀ (p:Program) (loose:List Str) (mean:ExcName→Option Value) (mg mb:Str→Option Value) (dp un:Nat) (gd:Option (List Code)) (cn:Str) (cs:Scope) (a:Addr) (ccd:Value) (cl:List (Str × Addr)) (outer:List Env) (A₀:Around) (base h₀:Heap) (L:Addr) (m:Str→Option Value) (rest:List (Addr × Obj)) (s:Shared) (Q E:Value→Shared→Prop),
    Below A₀ base outer h₀→Fr h₀ L s.heap m→(Mine.hd.heap_1 w.params).In h₀→News h₀ L s.heap (led++rest)→Off wr rest→Top p loose mean mg mb h₀→cs.kind=.function→dp+dz<recursionLimit→un+8 * dz<cLine →
    (∀ v led' fr h' tk',Post v led' fr→(∀ d∈fr,∀ q∈led++rest,q.1<d)→Fr h₀ L h' m→News h₀ L h' (led'++rest)→Q v { s with heap:=h',toks:=tk' }) →
    wpAny (model PySem.Challenge.rw_ok0063_01.prog w) (ktrTop dp un gd cn cs L a ccd cl outer) (call (.ref f) args) Q E s
end
section
abbrev rowsD (w:World) (t:Tok) (r:Addr) : Obj:=dictOf [en w "rows" t (.ref r)] 1
end
section
abbrev mkD (w:World) (t1 t2 t3 t4:Tok) (number buf pos:Value) : Obj:=dictOf [en w "number" t1 number,en w "advances" t2 (.bool false),en w "buffer" t3 buf,en w "position" t4 pos] 4
end
section
abbrev IsRows (w:World) (o:Obj) (kvs:List (Int × Value)) : Prop:=o.IsDictOf (PySem.intKind PySem.Challenge.rw_ok0063_01.prog w) kvs
end
section
abbrev Led:=List (Addr × Obj)
end
section
def ids:List Int:=[0,1,2,3]
end
section
def sides:List Int:=[0,1]
end
section
def blkO (I:List Int) (E:Int→Led) (i:Int) : Led:=(I.filter (fun j=>decide (j≠i))).flatMap E
end
section
def setB (E:Int→Led) (i:Int) (l:Led) : Int→Led:=fun j=>if j=i then l else E j
end
section
structure Ad where
  ma:Int→Addr
  md:Int→Addr
  b:Int→Addr
  bd:Int→Addr
  t:Int→Addr
  td:Int→Addr
  c:Int→Addr
  k:Int→Addr
  kd:Int→Addr
  r:Int→Addr
  ls:Int→Addr
end
section
def Ad.mAd (A:Ad) (i:Int) : List Addr:=[A.ma i,A.md i]
end
section
def Ad.bAd (A:Ad) (j:Int) : List Addr:=[A.b j,A.bd j,A.t j,A.td j,A.c j,A.k j,A.kd j,A.r j,A.ls j]
end
section
def Ad.all (A:Ad) : List Addr:=ids.flatMap A.mAd++sides.flatMap A.bAd
end
section
structure Ad.Ok (A:Ad) : Prop where
  blk:∀ j∈sides,@LT.lt Nat _ (A.bd j) (A.b j)∧@LT.lt Nat _ (A.b j) (A.td j)∧@LT.lt Nat _ (A.td j) (A.t j)∧@LT.lt Nat _ (A.t j) (A.c j)∧@LT.lt Nat _ (A.c j) (A.kd j)∧@LT.lt Nat _ (A.kd j) (A.k j)∧@LT.lt Nat _ (A.k j) (A.r j)∧@LT.lt Nat _ (A.r j) (A.ls j)
  two : @LT.lt Nat _ (A.ls 0) (A.bd 1)
  marks : @LT.lt Nat _ (A.ls 1) (A.md 0)
  ord : @LT.lt Nat _ (A.md 0) (A.ma 0)∧@LT.lt Nat _ (A.ma 0) (A.md 1)∧@LT.lt Nat _ (A.md 1) (A.ma 1)∧@LT.lt Nat _ (A.ma 1) (A.md 2)∧@LT.lt Nat _ (A.md 2) (A.ma 2)∧@LT.lt Nat _ (A.ma 2) (A.md 3)∧@LT.lt Nat _ (A.md 3) (A.ma 3)
  low:∀ j∈sides,(A.r j == sysModules)=false
end
section
def Ad.bk (A:Ad) (j:Int) : List Nat:=[A.bd j,A.b j,A.td j,A.t j,A.c j,A.kd j,A.k j,A.r j,A.ls j]
end
section
def Ad.mks (A:Ad) : List Nat:=[A.md 0,A.ma 0,A.md 1,A.ma 1,A.md 2,A.ma 2,A.md 3,A.ma 3]
end
section
def bufV (A:Ad) (hm:Int) : Value:=if hm=0 then .ref (A.b 0) else if hm=1 then .ref (A.b 1) else .none
end
section
inductive MkOk (w:World) (A:Ad) (i hm ps:Int) (l:Led) : Prop
  | intro (t1 t2 t3 t4 t5 t6:Tok) (e:l=[(A.ma i,instObj 254 (A.md i)),(A.md i,mkD w t1 t2 t3 t4 (.int i t5) (bufV A hm) (.int ps t6))]) : MkOk w A i hm ps l
end
section
def Marks (w:World) (A:Ad) (I:List Int) (home pos:Int→Int) (E:Int→Led) : Prop:=∀ i∈I,MkOk w A i (home i) (pos i) (E i)
end
section
def RowsOk (A:Ad) (I:List Int) (home:Int→Int) (j:Int) (kvs:List (Int × Value)) : Prop:=∀ i v,(i,v)∈kvs ↔ (i∈I∧home i=j∧v=.ref (A.ma i))
end
section
def Stop (P:Prop) : Prop:=P
end
section
def upTo (ns:List Int) (n:Nat) (f:Int→Int) (pos:Int→Int) : Int→Int:=fun i=>if i∈ns.take n then f (pos i) else pos i
end
section
variable {prog:Program} {w:World} {A0:Around} {E0:Value→Shared→Prop} {s:Shared} {env:Env} {h₀:Heap} {x y:Str} {body:List Stmt} {Q:Flow→Shared→Prop}
def MkTurn (h₀:Heap) (L:Addr) (m₀:Str→Option Value) (x y:Str) (s:Shared) (news':Tok→Led) (fl:Flow) (s':Shared) : Prop :=
  fl=.next∧∃ h' tk' m' t6',s'={ s with heap:=h',toks:=tk' }∧Fr h₀ L h' m'∧(∀ z,z≠x→z≠y→m' z=m₀ z)∧News h₀ L h' (news' t6')
end
section
inductive Cut (M:Led) : Led→Led→Led→Prop
  | here {r} : Cut M (M++r) [] r
  | step {p l e r} : Cut M l e r→Cut M (p::l) (p::e) r
end
section
abbrev bufD (w:World) (T:Nat→Tok) (vn vm:Value) (t k:Addr) (point begv zv mark ticks ct st:Value) (ls:Addr) : Obj :=
  dictOf [en w "number" (T 1) vn,en w "name" (T 2) vm,en w "text" (T 3) (.ref t),en w "markers" (T 4) (.ref k),en w "point" (T 5) point,en w "begv" (T 6) begv,en w "zv" (T 7) zv,en w "mark" (T 8) mark,
    en w "is_live" (T 9) (.bool true),en w "is_read_only" (T 10) (.bool false),en w "ticks" (T 11) ticks,en w "codes_ticks" (T 12) ct,en w "saved_ticks" (T 13) st,en w "listeners" (T 14) (.ref ls),
    en w "undo" (T 15) .none,en w "props" (T 16) .none,en w "overlays" (T 17) .none,en w "locals" (T 18) .none,en w "syntax" (T 19) .none,en w "file" (T 20) .none] 20
end
section
structure BfIn (w:World) (A:Ad) (I:List Int) (home:Int→Int) (j size:Int) (lim:Nat) (its:Array Value) (gs ge:Int) (o:Obj) (kvs:List (Int × Value)) : Prop where
  g0:0≤gs
  g1:gs≤ge
  g2:ge≤its.size
  sz:(its.size:Int)-ge+gs=size
  lm:its.size≤lim
  ro:IsRows w o kvs
  rows:RowsOk A I home j kvs
  len:kvs.length≤8
end
section
inductive BfOk (w:World) (A:Ad) (I:List Int) (home:Int→Int) (j size point:Int) (mark:Value) (lim:Nat) (l:Led) : Prop
  | intro (T:Nat→Tok) (vn vm ct st:Value) (tp tb tz u1 g1 g2 g3 g4 g5 g6 g7 tr:Tok) (ticks gs ge:Int) (its:Array Value) (n:Nat) (o:Obj) (kvs:List (Int × Value))
    (e:l=[(A.b j,instObj 428 (A.bd j)),(A.bd j,bufD w T vn vm (A.t j) (A.k j) (.int point tp) (.int 1 tb) (.int (size+1) tz) mark (.int ticks u1) ct st (A.ls j)),(A.t j,instObj 177 (A.td j)),
      (A.td j,gapD w g1 g2 g3 g4 (.int 8 g5) (A.c j) (.int gs g6) (.int ge g7)),(A.c j,listOf its n),(A.k j,instObj 322 (A.kd j)),(A.kd j,rowsD w tr (A.r j)),(A.r j,o),(A.ls j,listOf #[] 0)])
    (h:BfIn w A I home j size lim its gs ge o kvs) : BfOk w A I home j size point mark lim l
end
section
def Away (l wr:List Addr) : Prop:=∀ a∈l,a ∉ wr
end
section
def upd (f:Int→Int) (i v:Int) : Int→Int:=fun x=>if x=i then v else f x
end
section
structure Sg where
  home:Int→Int
  pos:Int→Int
  size:Int→Int
  point:Int→Int
  marked:Bool
  lim:Nat
end
section
def Sg.mark (A:Ad) (σ:Sg) (j:Int) : Value:=if j=0 then (if σ.marked=true then .ref (A.ma 3) else .none) else .none
end
section
def St (w:World) (A:Ad) (σ:Sg) (l:Led) : Prop :=
  ∃ EM G,l=ids.flatMap EM++sides.flatMap G∧Marks w A ids σ.home σ.pos EM∧∀ j∈sides,BfOk w A ids σ.home j (σ.size j) (σ.point j) (σ.mark A j) σ.lim (G j)
end
section
def SpecS (w:World) (A:Ad) (f:Addr) (args:List Value) (dz:Nat) (σ:Sg) (Post:Value→Sg→Prop) : Prop :=
  ∀ l,St w A σ l→Spec w f args dz l A.all fun v l'=>∃ σ',Post v σ'∧St w A σ' l'
end
section
def led1 (p s e n:Int) : Int:=if s=e then (if p > s then p+n else p) else (if p ≥ e then p-(e-s) else min p s)
end
section
def Sg.edit (σ:Sg) (j s e n:Int) : Sg :=
  { σ with size:=upd σ.size j (σ.size j+n-(e-s)),point:=upd σ.point j (led1 (σ.point j) s e n),pos:=fun i=>if σ.home i=j then led1 (σ.pos i) s e n else σ.pos i,lim:=σ.lim+18 }
end
section
def Trd (h base:Heap) (e:Addr) (cls:Value) (d:Addr) (fl:Value) : Prop :=
  ∃ oe vs T oT ts,h.get? e=some oe∧(oe.cls=cls∧oe.dict=some d)∧oe.data=.fields vs∧vs[1]?=some (.ref T)∧base.get? T=none∧T≠e∧h.get? T=some oT∧oT.data=.fields ts∧ts[3]?=some fl
end
section
def Fly (base:Heap) (l:List Env) (e:Addr) (cls:Value) (d:Addr) (fl:Value) (h:Heap) : Prop:=base.StaysIn h∧base.get? e=none∧h.FunFrames base l∧Trd h base e cls d fl
end
section
def SymOk (od:Obj) : Prop:=∃ es ep t,od.data=.dict es ep∧StrKeys es∧nsFind es (ofString "symbol")=some (.str (ofString "error") t)
end
section
def RaisedD (base G:Heap) (l:List Env) (e d:Addr) (news:Led) (h:Heap) : Prop :=
  ∃ B,base.StaysIn B∧(∀ b o,G.get? b=some o→b ∉ l.filterMap (·.frame)→B.get? b=some o)∧(∀ q∈news,B.get? q.1=some q.2∧G.get? q.1=none∧base.get? q.1=none)∧Fly B l e (.ref 38) d .none h
end
section
def SpecR (w:World) (f:Addr) (args:List Value) (dz:Nat) (led:Led) : Prop :=
  ∀ (p:Program) (loose:List Str) (mean:ExcName→Option Value) (mg mb:Str→Option Value) (dp un:Nat) (gd:Option (List Code)) (cn:Str) (cs:Scope) (a:Addr) (ccd:Value) (cl:List (Str × Addr)) (outer:List Env) (A₀:Around) (base h₀:Heap) (L:Addr) (m:Str→Option Value) (rest:Led) (s:Shared) (Q E:Value→Shared→Prop),
    Below A₀ base outer h₀→Fr h₀ L s.heap m→(Mine.hd.heap_1 w.params).In h₀→News h₀ L s.heap (led++rest)→Top p loose mean mg mb h₀→cs.kind=.function→dp+dz<recursionLimit→un+8 * dz<cLine →
    (∀ G e d od h' tk',Fr h₀ L G m→G.UpToSlots h'→SymOk od→RaisedD base G (envX cn cs L a ccd cl::outer) e d ((d,od)::(led++rest)) h'→E (.ref e) { s with heap:=h',toks:=tk' }) →
    wpAny (model PySem.Challenge.rw_ok0063_01.prog w) (ktrTop dp un gd cn cs L a ccd cl outer) (call (.ref f) args) Q E s
end
section
abbrev excO (vs:Array Value) : Obj:={ cls:=.ref 38,data:=.fields vs }
end
section
abbrev excOd (vs:Array Value) (d:Addr) : Obj:={ cls:=.ref 38,dict:=some d,data:=.fields vs }
end
section
def NsOk (od:Obj) (m:Str→Option Value) : Prop:=∃ es ep,od.data=.dict es ep∧StrKeys es∧UniqKeys es∧∀ name,nsFind es name=m name
end
section
def symM (v:Value) : Str→Option Value:=fun y=>if y=ofString "symbol" then some v else none
end
section
def symM2 (v v2:Value) : Str→Option Value:=fun y=>if y=ofString "data" then some v2 else symM v y
end
section
def IsRaised (w:World) (E:Value→Shared→Prop) (v:Value) (s₁:Shared) : Prop:=∃ e d vs,v=.ref e∧(Mine.hd.heap_1 w.params).In s₁.heap∧s₁.heap.get? e=some (excOd vs d)∧vs[1]?=some .none∧E (.ref e) s₁
end
section
def SpecX (w:World) (f:Addr) (args:List Value) (dz:Nat) (led:Led) (wr:List Addr) (Post:Value→Led→Prop) : Prop :=
  ∀ (p:Program) (loose:List Str) (mean:ExcName→Option Value) (mg mb:Str→Option Value) (dp un:Nat) (gd:Option (List Code)) (cn:Str) (cs:Scope) (a:Addr) (ccd:Value) (cl:List (Str × Addr)) (outer:List Env) (A₀:Around) (base h₀:Heap) (L:Addr) (m:Str→Option Value) (rest:Led) (s:Shared) (Q E:Value→Shared→Prop),
    Below A₀ base outer h₀→Fr h₀ L s.heap m→(Mine.hd.heap_1 w.params).In h₀→News h₀ L s.heap (led++rest)→Off wr rest→Top p loose mean mg mb h₀→(Mine.hd.heap_1 w.params).In base→Top p loose mean mg mb base→KtsDicts (outer.filterMap (·.frame)) h₀→cs.kind=.function→dp+dz<recursionLimit→un+8 * dz<cLine →
    (∀ v led' h₀' h' tk',Post v led'→KtsTurn (outer.filterMap (·.frame)) h₀ h₀'→Fr h₀' L h' m→News h₀' L h' (led'++rest)→Below A₀ base outer h₀'→(Mine.hd.heap_1 w.params).In h₀'→Top p loose mean mg mb h₀'→KtsDicts (outer.filterMap (·.frame)) h₀'→Q v { s with heap:=h',toks:=tk' }) →
    wpAny (model PySem.Challenge.rw_ok0063_01.prog w) (ktrTop dp un gd cn cs L a ccd cl outer) (call (.ref f) args) Q E s
end
section
variable {prog:Program} {w:World} {A:Around} {E:Value→Shared→Prop} {s:Shared} {env:Env} {h₀:Heap} {target:Expr} {body:List Stmt} {Q:Flow→Shared→Prop}
inductive LoopsX (prog:Program) (w:World) (A:Around) (env:Env) (target:Expr) (body:List Stmt) (Q:Flow→Shared→Prop) (E:Value→Shared→Prop) (it:Value) (s₂:Shared) : Prop
  | mk (C:Heap→Prop) (h₀:Heap) (I:Addr) (fp wr:List Addr) (n:Nat) (P Md:Nat→Value→Heap→Prop) (St:Nat→Heap→Prop) (m:Str→Option Value) (news:Led) (J:Nat→(Str→Option Value)→Led→Prop)
    (hi:it=.ref I) (W:KTurns prog w A target I fp wr n P Md St) (hL:env.locals ∉ fp) (hC:C h₀) (hf:∀ h₀,C h₀→∀ b∈fp,h₀.get? b=none) (hn:∀ p∈news,p.1 ∉ wr) (hS:St 0 s₂.heap) (F:Fr h₀ env.locals s₂.heap m) (N:News h₀ env.locals s₂.heap news) (h0:J 0 m news)
    (step:∀ i v h₀ m₁ news₁ h₁ tk₁ own,C h₀→i<n→P i v h₁→J i m₁ news₁→(∀ p∈news₁,p.1 ∉ wr)→(∀ p∈own,p.1∈fp)→(∀ b∈fp,∀ o,h₁.get? b=some o→(b,o)∈own)→St (i+1) h₁ →
      Fr h₀ env.locals h₁ m₁→News h₀ env.locals h₁ (own++news₁) →
      wpAny (model prog w) A (assign target env v) (fun _ s₃=>wpAny (model prog w) A (execs body env)
        (fun fl s'=>fl=.next∧∃ h₀' h' tk m' news',C h₀'∧s'={ s₂ with heap:=h',toks:=tk }∧Fr h₀' env.locals h' m'∧News h₀' env.locals h' (own++news')∧(∀ p∈news',p.1 ∉ wr)∧J (i+1) m' news') E s₃) E { s₂ with heap:=h₁,toks:=tk₁ })
    (done:∀ h₀' h' tk m' news',C h₀'→Fr h₀' env.locals h' m'→News h₀' env.locals h' news'→J n m' news'→Q .next { s₂ with heap:=h',toks:=tk }) : LoopsX prog w A env target body Q E it s₂
end
section
def TabL (P:Addr) (qual:Str) (l:Led) : Prop :=
  ∃ ps codes,l=(P,tabObj ps)::codes∧TriplesOk ps.toList∧(∀ q∈codes,q.1≠P)∧∀ pos v,codeAmong pos ps.toList=some v→∃ c' oc vs t,v=.ref c'∧(c',oc)∈codes∧oc.data=.fields vs∧vs[1]?=some (.str qual t)
end
section
variable {prog:Program} {w:World} {A:Around} {E:Value→Shared→Prop} {s:Shared} {env:Env} {h₀:Heap} {body:List Stmt} {Q:Flow→Shared→Prop}
def StepX (w:World) (prog:Program) (A:Around) (E:Value→Shared→Prop) (C:Heap→Prop) (env:Env) (target:Expr) (body:List Stmt) (s:Shared) (I:Nat) (l1 l2:Addr) (J:Nat→(Str→Option Value)→Led→Prop) (i:Nat) (x y:Value) : Prop :=
  ∀ h₀ T m₁ news₁ h₁ tk₁ own,C h₀→h₁.IsTuple T #[x,y]→J i m₁ news₁→(∀ p∈news₁,@LT.lt Nat _ p.1 I∨@LT.lt Nat _ (I+4) p.1)→(∀ b:Nat,b<I+5→I≤b→∃ o,(b,o)∈own)→(∀ p∈own,p.1=l1∨p.1=l2∨@LE.le Nat _ I p.1)→Fr h₀ env.locals h₁ m₁→News h₀ env.locals h₁ (own++news₁) →
    ∀ P:Flow→Shared→Prop,(∀ h₀' h' tk m' news',C h₀'→Fr h₀' env.locals h' m'→News h₀' env.locals h' (own++news')→(∀ p∈news',@LT.lt Nat _ p.1 I∨@LT.lt Nat _ (I+4) p.1)→J (i+1) m' news'→P .next { s with heap:=h',toks:=tk }) →
    wpAny (model prog w) A (assign target env (.ref T)) (fun _ s₃=>wpAny (model prog w) A (execs body env) P E s₃) E { s with heap:=h₁,toks:=tk₁ }
end
section
def four (f:Int→Value) : List Value:=[f 0,f 1,f 2,f 3]
end
section
abbrev tupO (a b:Int) (t u:Tok) : Obj:={ cls:=.type "tuple",data:=.seq #[.int a t,.int b u] }
end
section
structure TupSpec (x:Int→Addr) (h p:Int→Int) (u u':Int→Tok) : Prop where
  any:True
end
section
inductive CutA (M:Led) : Led→Led→Led→Prop
  | here {r} : CutA M (M++r) [] r
  | step {p l e r} : CutA M l e r→CutA M (p::l) (p::e) r
  | app {X l e r} : CutA M l e r→CutA M (X++l) (X++e) r
end
section
variable {prog:Program} {w:World} {A:Around} {E:Value→Shared→Prop} {s:Shared} {env:Env} {h₀:Heap} {body:List Stmt} {Q:Flow→Shared→Prop}
def StepE (w:World) (prog:Program) (A:Around) (E:Value→Shared→Prop) (C:Heap→Prop) (env:Env) (target:Expr) (body:List Stmt) (s:Shared) (I:Nat) (l1:Addr) (J:Nat→(Str→Option Value)→Led→Prop) (i:Nat) (x:Value) : Prop :=
  ∀ h₀ T t m₁ news₁ h₁ tk₁ own,C h₀→h₁.IsTuple T #[.int i t,x]→J i m₁ news₁→(∀ p∈news₁,@LT.lt Nat _ p.1 I∨@LT.lt Nat _ (I+1) p.1)→(∀ b:Nat,b<I+2→I≤b→∃ o,(b,o)∈own)→(∀ p∈own,p.1=l1∨@LE.le Nat _ I p.1)→Fr h₀ env.locals h₁ m₁→News h₀ env.locals h₁ (own++news₁) →
    ∀ P:Flow→Shared→Prop,(∀ h₀' h' tk m' news',C h₀'→Fr h₀' env.locals h' m'→News h₀' env.locals h' (own++news')→(∀ p∈news',@LT.lt Nat _ p.1 I∨@LT.lt Nat _ (I+1) p.1)→J (i+1) m' news'→P .next { s with heap:=h',toks:=tk }) →
    wpAny (model prog w) A (assign target env (.ref T)) (fun _ s₃=>wpAny (model prog w) A (execs body env) P E s₃) E { s with heap:=h₁,toks:=tk₁ }
end
section
def Halt (P:Prop) : Prop:=P
end
section
def tok20 (l:List Tok) : Nat→Tok:=fun n=>l.getD (n-1) 0
end
section
open PySem.W PySem PySem.Calls PyProof.Rows PyProof.V PySem.Spec
def Fresh (es:List DictEntry) (l:List Str) : Prop:=(∀ e∈es,e.refKey=false∧∀ nm∈l,e.key.isStr nm=false)∧es.length+l.length≤30∧l.Nodup
end
section
open PySem.W PySem PySem.Calls PyProof.Rows PyProof.V PySem.Spec
variable {prog:Program} {w:World} {A:Around} {E:Value→Shared→Prop} {s:Shared} {K:Frag} {x C dx L:Addr} {h₀:Heap} {m:Str→Option Value} {news:Led} {ox:Obj} {es:List DictEntry} {n:Nat} {name:Str} {v:Value}
def HidR (R:Led) : Prop:=R=R
end
section
open PyProof.V PyProof.Rows.LCg
variable {prog:Program} {w:World} {A:Around} {E:Value→Shared→Prop} {s:Shared} {env:Env} {h₀:Heap} {body:List Stmt} {Q:Flow→Shared→Prop}
def StepV (w:World) (prog:Program) (A:Around) (E:Value→Shared→Prop) (C:Heap→Prop) (env:Env) (target:Expr) (body:List Stmt) (s:Shared) (I:Nat) (J:Nat→(Str→Option Value)→Led→Prop) (i:Nat) (v:Value) : Prop :=
  ∀ h₀ m₁ news₁ h₁ tk₁ oI,C h₀→J i m₁ news₁→(∀ p∈news₁,@LT.lt Nat _ p.1 I∨@LT.lt Nat _ I p.1)→Fr h₀ env.locals h₁ m₁→News h₀ env.locals h₁ ((I,oI)::news₁) →
    ∀ P:Flow→Shared→Prop,(∀ h₀' h' tk m' news',C h₀'→Fr h₀' env.locals h' m'→News h₀' env.locals h' ((I,oI)::news')→(∀ p∈news',@LT.lt Nat _ p.1 I∨@LT.lt Nat _ I p.1)→J (i+1) m' news'→P .next { s with heap:=h',toks:=tk }) →
    wpAny (model prog w) A (assign target env v) (fun _ s₃=>wpAny (model prog w) A (execs body env) P E s₃) E { s with heap:=h₁,toks:=tk₁ }
end
section
open PyProof.V PyProof.Rows.LCg
def lawD:Option (Scope × List Stmt):=match PySem.Challenge.pw_ok0063_01.main.body.getLast? with
  | some (.FunctionDef _ _ body _ _ _ scope _ _ _)=>some (scope,body)
  | _=>none
end
section
open PyProof.V PyProof.Rows.LCg
def forB:Stmt→Option (List Stmt)
  | .For _ _ b _ _=>some b
  | _=>none
end
section
open PyProof.V PyProof.Rows.LCg
noncomputable def peel:Nat→Stmt→Option (List Stmt)
  | 0,.If _ b _ _=>some b
  | k+1,.If _ _ [s] _=>peel k s
  | _,_=>none
end
section
open PyProof.V PyProof.Rows.LCg
noncomputable def els:Nat→Stmt→Option (List Stmt)
  | 0,.If _ _ e _=>some e
  | k+1,.If _ _ [s] _=>els k s
  | _,_=>none
end
section
open PyProof.V PyProof.Rows.LCg
def lapD:Option (List Stmt):=match lawD with
  | some (_,[_,_,_,_,f,_])=>forB f
  | _=>none
end
section
open PyProof.V PyProof.Rows.LCg
noncomputable def wayD (k:Nat) : Option (List Stmt):=match lapD with
  | some [_,_,i,_]=>peel k i
  | _=>none
end
section
open PyProof.V PyProof.Rows.LCg
noncomputable def restD (k:Nat) : Option (List Stmt):=match lapD with
  | some [_,_,i,_]=>els k i
  | _=>none
end
section
open PyProof.V PyProof.Rows.LCg
def updA (x:Int→Addr) (i:Int) (T:Addr) : Int→Addr:=fun y=>if y=i then T else x y
end
section
open PyProof.V PyProof.Rows.LCg
def updT (x:Int→Tok) (i:Int) (T:Tok) : Int→Tok:=fun y=>if y=i then T else x y
end
section
open PyProof.V PyProof.Rows.LCg
structure LI (w:World) (L I:Nat) (A:Ad) (σ:Sg) (dl bl ow sp hl:Addr) (x:Int→Addr) (S T1 T2:Led) (dv:List Value) (dn:List Int) : Prop where
  ok:A.Ok
  st:St w A σ S
  t1:TabL 529 (ofString "_law_is_so.<locals>.<lambda>") T1
  t2:TabL 541 (ofString "law.<locals>.<lambda>") T2
  di:IntsAre dv dn
  dz:dn.length≤20
  good:∀ i∈ids,(σ.home i=-1∧σ.pos i=0)∨(σ.home i∈sides∧1≤σ.pos i∧σ.pos i≤σ.size (σ.home i)+1)
  pts:∀ j∈sides,0≤σ.size j∧σ.size j≤σ.lim∧1≤σ.point j∧σ.point j≤σ.size j+1
  lo:∀ a:Nat,a∈([dl,bl,ow,sp,hl,x 0,x 1,x 2,x 3] : List Nat)++A.all→L+8<a∧a≠I
  lI:L+8<I
  lt:529<L∧541<L
  na:∀ a:Addr,a∈[dl,bl,ow,sp,hl,x 0,x 1,x 2,x 3]→a ∉ A.all
  tt:∀ q∈T1++T2,q.1 ∉ A.all∧(@Eq Nat q.1 529∨@Eq Nat q.1 541∨@LT.lt Nat _ (L+8) q.1)∧@Ne Nat q.1 dl∧@Ne Nat q.1 sp∧@Ne Nat q.1 hl∧@Ne Nat q.1 I
  tn:(∀ q∈T1,@Ne Nat q.1 541)∧∀ q∈T2,@Ne Nat q.1 529
  dis : @Ne Nat dl bl∧@Ne Nat dl ow∧@Ne Nat dl sp∧@Ne Nat dl hl∧@Ne Nat bl sp∧@Ne Nat bl hl∧@Ne Nat ow sp∧@Ne Nat ow hl∧@Ne Nat sp hl
  dix:∀ i∈ids,@Ne Nat dl (x i)∧@Ne Nat sp (x i)∧@Ne Nat hl (x i)
end
section
open PyProof.V PyProof.Rows.LCg
inductive Cells6 (o1 o2 o3 o4 o5 o7:Obj) : Prop
  | intro (v1 v2 v3 v4 v5 v7:Option Value) (h1:Obj.data o1=.cell v1) (h2:Obj.data o2=.cell v2) (h3:Obj.data o3=.cell v3) (h4:Obj.data o4=.cell v4) (h5:Obj.data o5=.cell v5) (h7:Obj.data o7=.cell v7) : Cells6 o1 o2 o3 o4 o5 o7
end
section
open PyProof.V PyProof.Rows.LCg
inductive LapJ (w:World) (L I:Nat) (oI:Obj) (A:Ad) (dl bl ow sp:Addr) (lim:Nat) (m:Str→Option Value) (news:Led) : Prop
  | intro (σ:Sg) (hl:Addr) (x:Int→Addr) (u u':Int→Tok) (S T1 T2:Led) (dv:List Value) (dn:List Int) (nd nb no ns nh:Nat) (s0 s1:Tok) (r:Str→Option Value) (o1 o2 o3 o4 o5 o6 o7 o8:Obj) (II:LI w L I A σ dl bl ow sp hl x S T1 T2 dv dn) (hlim:σ.lim≤lim) (hm:m=(fun y=>(if y=ofString "deck" then some (.ref dl) else if y=ofString "homes" then some (.ref hl) else if y=ofString "spots" then some (.ref sp) else r y))) (hn:(I,oI)::news=(I,oI)::(L+1+1+1+1+1+1+1+1,o8)::(L+1+1+1+1+1+1+1,o7)::(L+1+1+1+1+1+1,o6)::(L+1+1+1+1+1,o5)::(L+1+1+1+1,o4)::(L+1+1+1,o3)::(L+1+1,o2)::(L+1,o1)::(dl,listOf (List.toArray dv) nd)::(bl,listOf #[.ref (A.b 0),.ref (A.b 1)] nb)::(ow,listOf #[.ref (A.ma 0),.ref (A.ma 1),.ref (A.ma 2),.ref (A.ma 3)] no)::(sp,listOf #[.int (σ.point 0) s0,.int (σ.point 1) s1] ns)::(hl,listOf #[.ref (x 0),.ref (x 1),.ref (x 2),.ref (x 3)] nh)::(x 0,tupO (σ.home 0) (σ.pos 0) (u 0) (u' 0))::(x 1,tupO (σ.home 1) (σ.pos 1) (u 1) (u' 1))::(x 2,tupO (σ.home 2) (σ.pos 2) (u 2) (u' 2))::(x 3,tupO (σ.home 3) (σ.pos 3) (u 3) (u' 3))::(S++(T1++T2))) (hc:Cells6 o1 o2 o3 o4 o5 o7) (h6:Obj.data o6=.cell (some (.ref bl))) (h8:Obj.data o8=.cell (some (.ref ow))) : LapJ w L I oI A dl bl ow sp lim m news
end
section
open PyProof.V PyProof.Rows.LCg
abbrev lawA (dp un:Nat) (gd:Option (List Code)) : Around:={ handled:=none,depth:=dp,frames:=some [],guards:=gd,units:=un }
end
section
open PyProof.V PyProof.Rows.LCg
def LG (w:World) (p:Program) (loose:List Str) (mean:ExcName→Option Value) (mg mb:Str→Option Value) (A₀:Around) (base:Heap) (h:Heap) : Prop :=
  KtsTurn ([] : List Addr) base h∧Below A₀ base [] h∧(Mine.hd.heap_1 w.params).In h∧Top p loose mean mg mb h∧KtsDicts ([] : List Addr) h
end
section
noncomputable def homesD:Option Stmt:=match wayD 3 with
  | some [_,_,_,_,h,_]=>some h
  | _=>none
end
section
def J4 (news:Led) (hm pm:Int→Int) (Lo:Nat) (i:Nat) (zs:List Value) (nw:Led) : Prop :=
  (∀ q∈news,q∈nw)∧zs.length=i∧∃ (T:Nat→Addr) (b b':Nat→Tok),∀ k:Nat,k<i→zs[k]?=some (.ref (T k))∧(T k,tupO (hm k) (pm k) (b k) (b' k))∈nw∧@LT.lt Nat _ Lo (T k)
end
section
noncomputable def tail4D:Option (List Stmt):=match wayD 3 with
  | some [_,_,_,_,h,t]=>some [h,t]
  | _=>none
end
section
def isoD:Option (List Stmt):=match lapD with
  | some [_,_,_,z]=>some [z]
  | _=>none
end
section
def for0D:Option Stmt:=match lawD with
  | some (_,[_,_,f,_,_,_])=>some f
  | _=>none
end
section
open PyProof.V PyProof.Rows.LCg
def JM (w:World) (news:Led) (Lo:Nat) (i:Nat) (zs:List Value) (nw:Led) : Prop :=
  (∀ q∈news,q∈nw)∧zs.length=i∧∃ (ma md:Nat→Addr) (t1 t2 t3 t4 t5 t6:Nat→Tok),(∀ k:Nat,k<i→zs[k]?=some (.ref (ma k))∧(ma k,instObj 254 (md k))∈nw∧(md k,mkD w (t1 k) (t2 k) (t3 k) (t4 k) (.int (k:Int) (t5 k)) .none (.int 0 (t6 k)))∈nw∧@LT.lt Nat _ Lo (md k)∧@LT.lt Nat _ (md k) (ma k))∧∀ k:Nat,k+1<i→@LT.lt Nat _ (ma k) (md (k+1))
end
section
def restD3:Option (List Stmt):=match lawD with
  | some (_,[_,_,_,a,b,c])=>some [a,b,c]
  | _=>none
end
end Mine
namespace Mine
theorem kwb:True:=by
  k_with "subscriptTail Name Slice ref ref" => (k_here;k_dflt (refine' slb_read ?F ?N ?l ?z ?h0 ?h1 ?h2 ?_ ?s ?t;(case F=>k_asm);(case N=>k_asm);(case l=>k_mem);(case z=>first | assumption | omega);(case h0=>omega);(case h1=>omega);(case h2=>omega);k_extra "tl");intro D' its' h' hz' hs' F' N' l1;(try dsimp only);(try k_lt l1);(try k_sweep))
  k_with "setItem ref ref ref" => (k_here;k_dflt (refine' slb_store ?F ?N ?l ?U ?ne ?z ?z2 ?h0 ?h1 ?h2 ?_;(case F=>k_asm);(case N=>k_asm);(case l=>k_mem);(case U=>k_updF);(case ne=>k_ne);(case z=>first | assumption | omega);(case z2=>first | assumption | omega);(case h0=>omega);(case h1=>omega);(case h2=>omega);k_whole);intro its' n' h' hs' F' N';(try dsimp only at N');(try dsimp only);(try k_sweep))
  k_with "call builtin:len" => (k_here;(with_reducible show wpAny _ _ (call (Value.builtin "len") [Value.ref _]) _ _ _);k_dflt (refine' len_led ?N ?l ?z ?_;(case N=>k_asm);(case l=>k_mem);(case z=>first | assumption | omega);k_whole))
  k_with "subscriptTail Attribute Name Slice ref ref" => (k_here;k_dflt (refine kba_turn (value':=PySem.Expr.Name (ofString "_") ⟨0,0,0,0⟩) (fun _=>rfl) ?_))
  k_with "getAttr ref" => (k_here;k_dflt (refine' get_own ?k1 ?k2 ?k3 ?k4 ?k5 ?k6 ?k7 ?k8 ?k9 ?_;(case k1=>k_asm);(case k2=>k_asm);(case k3=>k_inst);(case k4=>k_is);(case k5=>k_is);(case k6=>k_is);(case k7=>k_is);(case k8=>k_get);(case k9=>k_handed);k_whole))
  k_with "eval Name" => (k_here;(with_reducible show wpAny _ _ (eval (Expr.Name _ _) (envOf _ _ _ _ _)) _ _ _);k_dflt (refine' ld ?k1 ?k2 ?_;(case k1=>k_asm);(case k2=>exact rfl);k_whole))
  k_with "binaryOp Add ref ref" => (k_here;k_dflt (refine' cat_led ?F ?N ?l ?l2 ?z ?z2 ?_;(case F=>k_asm);(case N=>k_asm);(case l=>k_mem);(case l2=>k_mem);(case z=>first | assumption | omega);(case z2=>first | assumption | omega);k_whole);intro D' h' F' N' l1;(try k_lt l1);(try k_sweep))
  k_with "call builtin:sorted" => (k_here;(with_reducible show wpAny _ _ (call (Value.builtin "sorted") [Value.ref _]) _ _ _);k_dflt (refine' sorted_rows ?hh ?F ?N ?l ?d ?lo ?z ?_;(case hh=>exact rfl);(case F=>k_asm);(case N=>k_asm);(case l=>k_mem);(case d=>assumption);(case lo=>assumption);(case z=>assumption);k_whole);intro D' vs' ns' c' h' tk' F' N' l1 hi' hp' ho';(try k_lt l1);(try k_sweep))
  k_with "compareOp In int ref" => (k_here;k_dflt (refine' rows_in ?N ?l ?d ?lo ?v ?_;(case N=>k_asm);(case l=>k_mem);(case d=>assumption);(case lo=>assumption);(case v=>assumption);k_whole))
  k_with "setItem ref int" => (k_here;k_dflt (refine' rows_set ?F ?N ?U ?d ?z ?_;(case F=>k_asm);(case N=>k_asm);(case U=>k_updF);(case d=>assumption);(case z=>assumption));intro h' o' F' N' hd';(try dsimp only at N');(try dsimp only);(try k_sweep))
  k_with "getMethod ref" => (k_here;(with_reducible show wpAny _ _ (getMethod _ (ofString "pop") _) _ _ _);k_dflt (refine' rows_meth ?N ?l ?d ?_;(case N=>k_asm);(case l=>k_mem);(case d=>assumption);k_whole))
  k_with "call builtin:dict.pop" => (k_here;k_dflt (refine' rows_pop ?F ?N ?U ?d ?z ?v ?_;(case F=>k_asm);(case N=>k_asm);(case U=>k_updF);(case d=>assumption);(case z=>assumption);(case v=>assumption));intro h' o' F' N' hd';(try dsimp only at N');(try dsimp only);(try k_sweep))
  k_with "subscriptTail Attribute Name Name ref int" => (k_here;k_dflt (refine kba_turn (value':=PySem.Expr.Name (ofString "_") ⟨0,0,0,0⟩) (fun _=>rfl) ?_))
  k_with "subscriptTail Name Name ref int" => (k_here;k_dflt (refine' rows_get ?N ?l ?d ?v ?_ ?s ?t;(case N=>k_asm);(case l=>k_mem);(case d=>assumption);(case v=>assumption);k_extra "tl"))
  k_with "call builtin:min" => (k_here;(with_reducible show wpAny _ _ (call (Value.builtin _) [Value.int _ _,Value.int _ _]) _ _ _);k_dflt (refine' min2 ?hh ?F ?N ?_;(case hh=>exact rfl);(case F=>k_asm);(case N=>k_asm));intro h' tk' t' F' N';(try dsimp only);(try k_sweep))
  k_with "call builtin:max" => (k_here;(with_reducible show wpAny _ _ (call (Value.builtin _) [Value.int _ _,Value.int _ _]) _ _ _);k_dflt (refine' max2 ?hh ?F ?N ?_;(case hh=>exact rfl);(case F=>k_asm);(case N=>k_asm));intro h' tk' t' F' N';(try dsimp only);(try k_sweep))
  k_with "ite" => (k_closed;k_here;first | (refine PySem.W.ite_pos (by with_reducible assumption) ?_) | (refine PySem.W.ite_neg (by with_reducible assumption) ?_) | (refine ite_isFalse (by with_reducible assumption) ?_) | (refine PySem.W.ite_pos (by k_dec) ?_) | (refine PySem.W.ite_neg (by k_dec) ?_))
  k_with "h1"=>((repeat' first | exact Off.nil | assumption | exact Away.ni ‹_› (by k_extra "mem") | exact Off.none | (refine' Off.append ?_ ?_) | exact Off.sub ‹_› (by k_extra "sb") | refine' Off.cons ?_ ?_ | exact ni_nil | refine' ni_cons ?_ ?_ | k_ne))
  k_with "h2"=>((repeat' first | exact Off.nil | exact Off.none | exact Off.sub ‹_› (by k_extra "sb") | refine' Off.cons ?_ ?_ | exact ni_nil | refine' ni_cons ?_ ?_ | k_ne))
  k_with "nn"=>((try simp only [List.cons_append,List.nil_append] at N');(try dsimp only);(try k_sweep))
  k_with "tl"=>((case s=>with_unfolding_all rfl);(case t=>kmk_pure);k_whole)
  k_with "mem" => first | with_reducible exact mh | (with_reducible refine mt ?_;k_extra "mem") | (with_reducible refine ml ?_;k_extra "mem") | (with_reducible refine mr ?_;k_extra "mem") | with_reducible assumption
  k_with "opq" => first | with_reducible exact sbr | (with_reducible refine sbl ?_;k_extra "opq") | (with_reducible refine sbrr ?_;k_extra "opq") | (with_reducible refine sbt ?_;k_extra "opq") | with_reducible assumption
  k_with "sb" => first | with_reducible exact sbn | with_reducible exact sbr | (with_reducible refine sba ?_ ?_ <;> k_extra "sb") | (with_reducible refine sbk ?_;k_extra "sb") | (with_reducible refine sbc ?_ ?_;(k_extra "mem");(k_extra "sb")) | k_extra "opq"
  k_with "ez" => ((case kA=>exact rfl);(case kF=>exact rfl);(case kK=>first | exact rfl | assumption);(case k1=>k_asm);(case k2=>k_asm);(case k3=>k_asm);(case k4=>k_asm);(case k5=>k_asm);(case k6=>k_is);(case k7=>k_is);(case k8=>ktr_room);(case k9=>exact rfl);(case c5=>decide);(case kB=>exact rfl);(case kL=>exact rfl);(case c2=>exact rfl);(case c3=>exact rfl);(case c4=>exact rfl);k_whole;intro g' L' h' tk' FG' F' N' B' X' T';(try dsimp only);(try k_fold))
  k_with "us1" => ((case B=>k_asm);(case F=>k_asm);(case X=>k_asm);(case N=>k_asm);(case P=>(repeat' first | exact Pick.nil | refine' Pick.cons ?_ ?_ | exact Take.head | refine' Take.tail ?_));(case T=>k_asm);(case hk=>first | exact rfl | assumption);(case hd=>ktr_room);(case hu=>ktr_units))
  k_with "us2" => ((case B=>k_asm);(case F=>k_asm);(case X=>k_asm);(case hS=>assumption);(case N=>k_asm);(case C=>(repeat' first | exact Cut.here | refine' Cut.step ?_));(case P=>(repeat' first | exact Pick.nil | refine' Pick.cons ?_ ?_ | exact Take.head | refine' Take.tail ?_));(case T=>k_asm);(case hk=>first | exact rfl | assumption);(case hd=>ktr_room);(case hu=>ktr_units))
  k_with "us3" => ((case B=>k_asm);(case F=>k_asm);(case X=>k_asm);(case N=>k_asm);(case C=>(repeat' first | exact Cut.here | refine' Cut.step ?_));(case P=>(repeat' first | exact Pick.nil | refine' Pick.cons ?_ ?_ | exact Take.head | refine' Take.tail ?_));(case T=>k_asm);(case hk=>first | exact rfl | assumption);(case hd=>ktr_room);(case hu=>ktr_units))
  k_with "us4" => ((case B=>k_asm);(case F=>k_asm);(case X=>k_asm);(case N=>k_asm))
  k_with "us5" => ((case T=>k_asm);(case hk=>first | exact rfl | assumption);(case hd=>ktr_room);(case hu=>ktr_units))
  k_with "pk" => (case P=>(repeat' first | exact Pick.nil | refine' Pick.cons ?_ ?_ | exact Take.head | refine' Take.tail ?_))
  k_with "getAttr ref" => (k_here;(with_reducible show wpAny _ _ (getAttr (Value.ref (Ad.ma _ _)) (ofString "buffer") _) _ _ _);k_dflt (refine' st_mbuf ?S ?F ?X ?N ?l ?i ?e ?_;(case S=>assumption);(case F=>k_asm);(case X=>k_asm);(case N=>k_asm);(case l=>(k_extra "opq"));(case i=>first | assumption | decide);(case e=>assumption));k_whole)
  k_with "getAttr ref" => (k_here;(with_reducible show wpAny _ _ (getAttr (Value.ref (Ad.ma _ _)) (ofString "position") _) _ _ _);k_dflt (refine' st_mpos ?S ?F ?X ?N ?l ?i ?_;(case S=>assumption);(case F=>k_asm);(case X=>k_asm);(case N=>k_asm);(case l=>(k_extra "opq"));(case i=>first | assumption | decide));intro t9';k_whole)
  k_with "getAttr ref" => (k_here;(with_reducible show wpAny _ _ (getAttr (Value.ref (Ad.ma _ _)) (ofString "number") _) _ _ _);k_dflt (refine' st_mnum ?S ?F ?X ?N ?l ?i ?_;(case S=>assumption);(case F=>k_asm);(case X=>k_asm);(case N=>k_asm);(case l=>(k_extra "opq"));(case i=>first | assumption | decide));intro t9';k_whole)
  k_with "getAttr ref" => (k_here;(with_reducible show wpAny _ _ (getAttr (Value.ref (Ad.b _ _)) (ofString "mark") _) _ _ _);k_dflt (refine' st_bmark ?S ?F ?X ?N ?l ?i ?e ?_;(case S=>assumption);(case F=>k_asm);(case X=>k_asm);(case N=>k_asm);(case l=>(k_extra "opq"));(case i=>first | assumption | decide);(case e=>assumption));k_whole)
  k_with "getAttr ref" => (k_here;(with_reducible show wpAny _ _ (getAttr (Value.ref (Ad.b _ _)) (ofString "point") _) _ _ _);k_dflt (refine' st_bpoint ?S ?F ?X ?N ?l ?i ?_;(case S=>assumption);(case F=>k_asm);(case X=>k_asm);(case N=>k_asm);(case l=>(k_extra "opq"));(case i=>first | assumption | decide));intro t9';k_whole)
  k_with "getAttr ref" => (k_here;(with_reducible show wpAny _ _ (getAttr (Value.ref (Ad.b _ _)) (ofString "markers") _) _ _ _);k_dflt (refine' st_bmarkers ?S ?F ?X ?N ?l ?i ?_;(case S=>assumption);(case F=>k_asm);(case X=>k_asm);(case N=>k_asm);(case l=>(k_extra "opq"));(case i=>first | assumption | decide));k_whole)
  k_with "getMethod ref" => (k_here;(with_reducible show wpAny _ _ (getMethod (Value.ref (Ad.b _ _)) (ofString "size") _) _ _ _);k_dflt (refine' st_msize ?S ?F ?X ?N ?l ?i ?_;(case S=>assumption);(case F=>k_asm);(case X=>k_asm);(case N=>k_asm);(case l=>(k_extra "opq"));(case i=>first | assumption | decide));k_whole)
  k_with "getMethod ref" => (k_here;(with_reducible show wpAny _ _ (getMethod (Value.ref (Ad.b _ _)) (ofString "goto") _) _ _ _);k_dflt (refine' st_mgoto ?S ?F ?X ?N ?l ?i ?_;(case S=>assumption);(case F=>k_asm);(case X=>k_asm);(case N=>k_asm);(case l=>(k_extra "opq"));(case i=>first | assumption | decide));k_whole)
  k_with "getMethod ref" => (k_here;(with_reducible show wpAny _ _ (getMethod (Value.ref (Ad.k _ _)) (ofString "numbers") _) _ _ _);k_dflt (refine' st_mnumbers ?S ?F ?X ?N ?l ?i ?_;(case S=>assumption);(case F=>k_asm);(case X=>k_asm);(case N=>k_asm);(case l=>(k_extra "opq"));(case i=>first | assumption | decide));k_whole)
  k_with "compareOp Is ref ref" => (k_here;(with_reducible show wpAny _ _ (compareOp CmpOp.Is (Value.ref (Ad.b _ _)) (Value.ref (Ad.b _ _))) _ _ _);k_dflt (refine' st_is ?S ?ok ?N ?l ?i ?i2 ?e ?_;(case S=>assumption);(case ok=>assumption);(case N=>k_asm);(case l=>(k_extra "opq"));(case i=>first | assumption | decide);(case i2=>first | assumption | decide);(case e=>first | exact (show (decide _)=true from by rw [decide_eq_true (by first | rfl | assumption | decide | omega)];rfl) | exact (show (decide _)=false from by rw [decide_eq_false (by first | rfl | assumption | decide | omega)];rfl) | exact rfl));k_whole)
  k_with "compareOp IsNot ref ref" => (k_here;(with_reducible show wpAny _ _ (compareOp CmpOp.IsNot (Value.ref (Ad.b _ _)) (Value.ref (Ad.b _ _))) _ _ _);k_dflt (refine' st_isnot ?S ?ok ?N ?l ?i ?i2 ?e ?_;(case S=>assumption);(case ok=>assumption);(case N=>k_asm);(case l=>(k_extra "opq"));(case i=>first | assumption | decide);(case i2=>first | assumption | decide);(case e=>first | exact (show (!decide _)=false from by rw [decide_eq_true (by first | rfl | assumption | decide | omega)];rfl) | exact (show (!decide _)=true from by rw [decide_eq_false (by first | rfl | assumption | decide | omega)];rfl) | exact rfl));k_whole)
  k_with "storeName" => (k_here;(with_reducible show wpAny _ _ (storeName (envOfC _ _ _ _ _) _ _) _ _ _);k_dflt (first | ((refine' storeC_C ?k1 ?k2 ?k3 ?k4 ?k5 ?_;(case k1=>k_asm);(case k2=>k_asm);(case k3=>exact rfl);(case k4=>k_updF);(case k5=>assumption);k_whole);intro h' o' F' N' d';(try dsimp only at N')) | ((refine' storeC_L ?k1 ?k2 ?_;(case k1=>k_asm);(case k2=>k_asm);k_whole);intro h' F' N')))
  k_with "subscriptTail Name Constant ref int" => (k_here;k_dflt (first | ((with_reducible show wpAny _ _ (subscriptTail _ _ (Value.ref _) (Value.int 0 _)) _ _ _);refine' sub_row0 ?N ?o ?l ?l0 ?l1 ?l2 ?l3 ?_ ?s ?t;(case N=>k_asm);(case o=>assumption);(case l=>assumption);(case l0=>k_mem);(case l1=>k_mem);(case l2=>k_mem);(case l3=>k_mem);k_extra "tl") | ((with_reducible show wpAny _ _ (subscriptTail _ _ (Value.ref _) (Value.int 1 _)) _ _ _);refine' sub_row1 ?N ?o ?l ?l0 ?l1 ?l2 ?l3 ?_ ?s ?t;(case N=>k_asm);(case o=>assumption);(case l=>assumption);(case l0=>k_mem);(case l1=>k_mem);(case l2=>k_mem);(case l3=>k_mem);k_extra "tl")))
  k_with "subscriptTail Name Constant ref int" => (k_here;k_dflt (first | ((with_reducible show wpAny _ _ (subscriptTail _ _ (Value.ref _) (Value.int 0 _)) _ _ _);refine' sub4_0 ?N ?l ?_ ?s ?t;(case N=>k_asm);(case l=>k_mem);k_extra "tl") | ((with_reducible show wpAny _ _ (subscriptTail _ _ (Value.ref _) (Value.int 1 _)) _ _ _);refine' sub4_1 ?N ?l ?_ ?s ?t;(case N=>k_asm);(case l=>k_mem);k_extra "tl") | ((with_reducible show wpAny _ _ (subscriptTail _ _ (Value.ref _) (Value.int 2 _)) _ _ _);refine' sub4_2 ?N ?l ?_ ?s ?t;(case N=>k_asm);(case l=>k_mem);k_extra "tl") | ((with_reducible show wpAny _ _ (subscriptTail _ _ (Value.ref _) (Value.int 3 _)) _ _ _);refine' sub4_3 ?N ?l ?_ ?s ?t;(case N=>k_asm);(case l=>k_mem);k_extra "tl") | ((with_reducible show wpAny _ _ (subscriptTail _ _ (Value.ref _) (Value.int 0 _)) _ _ _);refine' sub2_0 ?N ?l ?_ ?s ?t;(case N=>k_asm);(case l=>k_mem);k_extra "tl") | ((with_reducible show wpAny _ _ (subscriptTail _ _ (Value.ref _) (Value.int 1 _)) _ _ _);refine' sub2_1 ?N ?l ?_ ?s ?t;(case N=>k_asm);(case l=>k_mem);k_extra "tl")))
  k_with "setItem ref int ref" => (k_here;k_dflt (refine' set_homes ?F ?N ?hi ?U ?_;(case F=>k_asm);(case N=>k_asm);(case hi=>first | assumption | decide);(case U=>k_upd);k_whole);intro h' F' N';(try dsimp only [List.nil_append,List.cons_append] at N'))
  k_with "eval Name" => (k_here;(with_reducible show wpAny _ _ (eval (Expr.Name _ _) (envOfC _ _ _ _ _)) _ _ _);k_dflt (first | (refine' nameC_L ?k1 ?k2 ?_;(case k1=>k_asm);(case k2=>first | exact rfl | assumption);k_whole) | (refine' nameC_C ?k1 ?k2 ?k3 ?k4 ?_;(case k1=>k_asm);(case k2=>exact rfl);(case k3=>k_mem);(case k4=>assumption);k_whole)))
  k_with "call ref" => (k_here;(with_reducible show wpAny _ _ (call (Value.ref 520) _) _ _ _);k_dflt (refine' Spec.use (law_draw ?y0 ?y1 ?y2 ?y3) ?B ?F ?X ?N ?P ?hr ?T ?hk ?hd ?hu ?_;k_extra "us1";(case y0=>assumption);(case y1=>assumption);(case y2=>decide);(case y3=>decide);(case hr=>(repeat' first | exact Off.nil | assumption | exact off_st1 ‹_› ‹_› | (refine' Off.append ?_ ?_) | refine' Off.cons ?_ ?_ | exact ni_nil | refine' ni_cons ?_ ?_ | k_ne));k_whole);intro v9 led9 h' tk' hP9;refine oa2 hP9 ?_;(try clear hP9);intro z10 z0;refine oe2 z10 ?_;(try clear z10);intro r9 t9 z0;refine oa3 z0 ?_;(try clear z0);intro hv9 ge9 lt9;refine oe3 z0 ?_;(try clear z0);intro vs9 ns9 c9 z1;refine oa3 z1 ?_;(try clear z1);intro hl9 hdi9 len9;subst hv9;subst hl9;intro F' N';(have hdz9:=Nat.le_trans len9 ‹_›);k_extra "nn")
  k_with "subscriptTail Name Name ref int" => (k_here;k_dflt (refine' sub_homes ?N ?o ?l ?v ?_ ?s ?t;(case o=>assumption);(case N=>k_asm);(case l=>k_mem);(case v=>first | assumption | decide | exact ids_iff.mpr ⟨by assumption,by assumption⟩);k_extra "tl"))
  k_with "subscriptTail Name Name ref int" => (k_here;k_dflt (refine' sub_own ?N ?o ?l ?v ?_ ?s ?t;(case o=>assumption);(case N=>k_asm);(case l=>k_mem);(case v=>first | assumption | decide | exact ids_iff.mpr ⟨by assumption,by assumption⟩);k_extra "tl"))
  k_with "callWith ref" => (k_here;k_dflt (refine' callWith_K ?k1 ?k2 ?_;(case k1=>k_asm);(case k2=>k_is);k_whole))
  k_with "cj" => first | with_reducible assumption | with_reducible exact cj0 ‹_› | with_reducible exact cj1 ‹_› | with_reducible exact cj2 ‹_› | with_reducible exact cj3 ‹_› | with_reducible exact cj4 ‹_› | with_reducible exact cj5 ‹_› | with_reducible exact cj6 ‹_› | with_reducible exact cj7 ‹_› | with_reducible exact cj8 ‹_› | with_reducible exact cj9 ‹_› | with_reducible exact cj0 (sk10 ‹_›) | with_reducible exact cj1 (sk10 ‹_›) | with_reducible exact cj2 (sk10 ‹_›) | with_reducible exact cj3 (sk10 ‹_›) | with_reducible exact cj4 (sk10 ‹_›) | with_reducible exact cj5 (sk10 ‹_›) | with_reducible exact cj6 (sk10 ‹_›) | with_reducible exact cj7 (sk10 ‹_›) | with_reducible exact cj8 (sk10 ‹_›) | with_reducible exact cj9 (sk10 ‹_›) | with_reducible exact cj0 (sk10 (sk10 ‹_›)) | with_reducible exact cj1 (sk10 (sk10 ‹_›)) | with_reducible exact cj2 (sk10 (sk10 ‹_›)) | with_reducible exact cj3 (sk10 (sk10 ‹_›)) | with_reducible exact cj4 (sk10 (sk10 ‹_›)) | with_reducible exact cj5 (sk10 (sk10 ‹_›)) | with_reducible exact cj6 (sk10 (sk10 ‹_›)) | with_reducible exact cj7 (sk10 (sk10 ‹_›)) | with_reducible exact cj8 (sk10 (sk10 ‹_›)) | with_reducible exact cj9 (sk10 (sk10 ‹_›))
  k_with "ar2" => first | with_reducible assumption | (with_reducible refine Nat.ne_of_lt ?_;k_extra "cj") | (with_reducible refine Nat.ne_of_gt ?_;k_extra "cj") | (with_reducible refine ltid ?_;k_extra "cj")
  k_with "arith" => (k_whole;first | with_reducible assumption | (law_clear;grind -lia -linarith -ring) | (law_clear;lia))
  k_with "kall" => assumption
  k_with "kne" => first | assumption | exact Ne.symm ‹_› | (refine neN ?_;(try dsimp only);omega)
  trivial
end Mine
local macro_rules | `(tactic| k_all)=>`(tactic| k_extra "kall")
local macro_rules | `(tactic| k_ne)=>`(tactic| k_extra "kne")
local macro_rules | `(tactic| walk_at $s:str)=>`(tactic| k_extra $s)
local macro_rules | `(tactic| omega)=>`(tactic| k_extra "arith")
namespace Mine
noncomputable section
theorem neW:Nonempty World:=⟨⟨fun _ _=>0,{ strHash:=fun _=>0,shareClass:=fun _=>0,mergeTok:=id,idOf:=fun _=>0,idOfShared:=fun _ _=>0,followText:=fun _=>false,idOfImm:=fun _=>0 }⟩⟩
def SkL:List Type:=[Program,World,Around,Value→Shared→Prop,Shared,Heap,Addr,Str→Option Value,PySem.Expr,Array Value,Value,Option Int,Nat,Obj→List (Prod Addr Obj),Tok,Int,Obj,List (Prod Int Value),Env,Str,List PySem.Stmt,Int→Int,Led,List Value,List Int,Ad,Int→Led,Nat→Tok,Sg,Bool,Sem Bool,Prod Value (List Value)→Shared→Prop,Array GenState,Drawn,OsState,List Str,Option Bool,Option Addr,Option Value,String,FuncData,ExcName→Option Value,Option (List Code),Scope,List (Prod Str Addr),List Env,PySem.W.Frag,List (Prod Str Value),Args,Result→Shared→Prop,Arguments,Array (Option Value),Heap→Prop,List Addr,Nat→Value→Heap→Prop,Model,Pos,List PySem.Expr,Nat→Value→Value→Prop,Nat→List Value→Prop,Int→Addr,Int→Tok,List (Prod Addr Obj),Flow→Shared→Prop,Prod Addr Obj,Value→Addr→Result→Shared→Prop,Nat→List Value→Led→Prop,Prop]
def SkU:Type:=∀ i:Nat,Nat→SkL.getD i Unit
noncomputable def SkU.set (u:SkU) (i k:Nat) (v:SkL.getD i Unit) : SkU:=fun j n=>if h:j=i then (bif Nat.beq n k then (h ▸ v) else u j n) else u j n
theorem neL:∀ L:List Type,(L.foldr (fun T P=>Nonempty T∧P) True)→∀ i,Nonempty (L.getD i Unit)
  | [],_,_=>⟨()⟩
  | _::_,h,0=>h.1
  | _::L,h,i+1=>neL L h.2 i
noncomputable def SkU.ctx (u:SkU) (p:Program) (loose:List Str) (mean:ExcName→Option Value) (mg mb:Str→Option Value) (dp un:Nat) (gd:Option (List Code)) (cn:Str) (cs:Scope) (a:Addr) (ccd:Value) (cl:List (Prod Str Addr)) (outer:List Env) (A₀:Around) (base h₀:Heap) (L:Addr) (m:Str→Option Value) (rest:List (Prod Addr Obj)) (s:Shared) (Q E:Value→Shared→Prop) : SkU:=u |>.set 0 1 p |>.set 35 1 loose |>.set 41 0 mean |>.set 7 4 mg |>.set 7 5 mb |>.set 12 7 dp |>.set 12 8 un |>.set 42 0 gd |>.set 19 5 cn |>.set 43 0 cs |>.set 6 14 a |>.set 10 22 ccd |>.set 44 0 cl |>.set 45 0 outer |>.set 2 2 A₀ |>.set 5 2 base |>.set 5 0 h₀ |>.set 6 0 L |>.set 7 0 m |>.set 62 0 rest |>.set 4 0 s |>.set 3 1 Q |>.set 3 0 E
def SpecB (p:Program) (loose:List Str) (mean:ExcName→Option Value) (mg mb:Str→Option Value) (dp un:Nat) (gd:Option (List Code)) (cn:Str) (cs:Scope) (a:Addr) (ccd:Value) (cl:List (Prod Str Addr)) (outer:List Env) (A₀:Around) (base h₀:Heap) (L:Addr) (m:Str→Option Value) (rest:List (Prod Addr Obj)) (s:Shared) (Q E:Value→Shared→Prop) (w:World) (f:Addr) (args:List Value) (dz:Nat) (led:List (Addr × Obj)) (wr:List Addr) (Post:Value→List (Addr × Obj)→Prop) : Prop :=
  Below A₀ base outer h₀→Fr h₀ L s.heap m→(Mine.hd.heap_1 w.params).In h₀→News h₀ L s.heap (led++rest)→Off wr rest→Top p loose mean mg mb h₀→cs.kind=.function→dp+dz<recursionLimit→un+8 * dz<cLine →
    (∀ v led' h' tk',Post v led'→Fr h₀ L h' m→News h₀ L h' (led'++rest)→Q v { s with heap:=h',toks:=tk' }) →
    wpAny (model PySem.Challenge.rw_ok0063_01.prog w) (ktrTop dp un gd cn cs L a ccd cl outer) (call (.ref f) args) Q E s
def SpecU (u:SkU) (w:World) (f:Addr) (args:List Value) (dz:Nat) (led:List (Addr × Obj)) (wr:List Addr) (Post:Value→List (Addr × Obj)→Prop) : Prop:=SpecB (u 0 1) (u 35 1) (u 41 0) (u 7 4) (u 7 5) (u 12 7) (u 12 8) (u 42 0) (u 19 5) (u 43 0) (u 6 14) (u 10 22) (u 44 0) (u 45 0) (u 2 2) (u 5 2) (u 5 0) (u 6 0) (u 7 0) (u 62 0) (u 4 0) (u 3 1) (u 3 0) w f args dz led wr Post
def SpecFB (p:Program) (loose:List Str) (mean:ExcName→Option Value) (mg mb:Str→Option Value) (dp un:Nat) (gd:Option (List Code)) (cn:Str) (cs:Scope) (a:Addr) (ccd:Value) (cl:List (Prod Str Addr)) (outer:List Env) (A₀:Around) (base h₀:Heap) (L:Addr) (m:Str→Option Value) (rest:List (Prod Addr Obj)) (s:Shared) (Q E:Value→Shared→Prop) (w:World) (f:Addr) (args:List Value) (dz:Nat) (led:List (Addr × Obj)) (wr:List Addr) (Post:Value→List (Addr × Obj)→List Addr→Prop) : Prop :=
  Below A₀ base outer h₀→Fr h₀ L s.heap m→(Mine.hd.heap_1 w.params).In h₀→News h₀ L s.heap (led++rest)→Off wr rest→Top p loose mean mg mb h₀→cs.kind=.function→dp+dz<recursionLimit→un+8 * dz<cLine →
    (∀ v led' fr h' tk',Post v led' fr→(∀ d∈fr,∀ q∈led++rest,q.1<d)→Fr h₀ L h' m→News h₀ L h' (led'++rest)→Q v { s with heap:=h',toks:=tk' }) →
    wpAny (model PySem.Challenge.rw_ok0063_01.prog w) (ktrTop dp un gd cn cs L a ccd cl outer) (call (.ref f) args) Q E s
def SpecFU (u:SkU) (w:World) (f:Addr) (args:List Value) (dz:Nat) (led:List (Addr × Obj)) (wr:List Addr) (Post:Value→List (Addr × Obj)→List Addr→Prop) : Prop:=SpecFB (u 0 1) (u 35 1) (u 41 0) (u 7 4) (u 7 5) (u 12 7) (u 12 8) (u 42 0) (u 19 5) (u 43 0) (u 6 14) (u 10 22) (u 44 0) (u 45 0) (u 2 2) (u 5 2) (u 5 0) (u 6 0) (u 7 0) (u 62 0) (u 4 0) (u 3 1) (u 3 0) w f args dz led wr Post
def SpecRB (p:Program) (loose:List Str) (mean:ExcName→Option Value) (mg mb:Str→Option Value) (dp un:Nat) (gd:Option (List Code)) (cn:Str) (cs:Scope) (a:Addr) (ccd:Value) (cl:List (Prod Str Addr)) (outer:List Env) (A₀:Around) (base h₀:Heap) (L:Addr) (m:Str→Option Value) (rest:List (Prod Addr Obj)) (s:Shared) (Q E:Value→Shared→Prop) (w:World) (f:Addr) (args:List Value) (dz:Nat) (led:Led) : Prop :=
  Below A₀ base outer h₀→Fr h₀ L s.heap m→(Mine.hd.heap_1 w.params).In h₀→News h₀ L s.heap (led++rest)→Top p loose mean mg mb h₀→cs.kind=.function→dp+dz<recursionLimit→un+8 * dz<cLine →
    (∀ G e d od h' tk',Fr h₀ L G m→G.UpToSlots h'→SymOk od→RaisedD base G (envX cn cs L a ccd cl::outer) e d ((d,od)::(led++rest)) h'→E (.ref e) { s with heap:=h',toks:=tk' }) →
    wpAny (model PySem.Challenge.rw_ok0063_01.prog w) (ktrTop dp un gd cn cs L a ccd cl outer) (call (.ref f) args) Q E s
def SpecRU (u:SkU) (w:World) (f:Addr) (args:List Value) (dz:Nat) (led:Led) : Prop:=SpecRB (u 0 1) (u 35 1) (u 41 0) (u 7 4) (u 7 5) (u 12 7) (u 12 8) (u 42 0) (u 19 5) (u 43 0) (u 6 14) (u 10 22) (u 44 0) (u 45 0) (u 2 2) (u 5 2) (u 5 0) (u 6 0) (u 7 0) (u 62 0) (u 4 0) (u 3 1) (u 3 0) w f args dz led
def SpecXB (p:Program) (loose:List Str) (mean:ExcName→Option Value) (mg mb:Str→Option Value) (dp un:Nat) (gd:Option (List Code)) (cn:Str) (cs:Scope) (a:Addr) (ccd:Value) (cl:List (Prod Str Addr)) (outer:List Env) (A₀:Around) (base h₀:Heap) (L:Addr) (m:Str→Option Value) (rest:List (Prod Addr Obj)) (s:Shared) (Q E:Value→Shared→Prop) (w:World) (f:Addr) (args:List Value) (dz:Nat) (led:Led) (wr:List Addr) (Post:Value→Led→Prop) : Prop :=
  Below A₀ base outer h₀→Fr h₀ L s.heap m→(Mine.hd.heap_1 w.params).In h₀→News h₀ L s.heap (led++rest)→Off wr rest→Top p loose mean mg mb h₀→(Mine.hd.heap_1 w.params).In base→Top p loose mean mg mb base→KtsDicts (outer.filterMap (·.frame)) h₀→cs.kind=.function→dp+dz<recursionLimit→un+8 * dz<cLine →
    (∀ v led' h₀' h' tk',Post v led'→KtsTurn (outer.filterMap (·.frame)) h₀ h₀'→Fr h₀' L h' m→News h₀' L h' (led'++rest)→Below A₀ base outer h₀'→(Mine.hd.heap_1 w.params).In h₀'→Top p loose mean mg mb h₀'→KtsDicts (outer.filterMap (·.frame)) h₀'→Q v { s with heap:=h',toks:=tk' }) →
    wpAny (model PySem.Challenge.rw_ok0063_01.prog w) (ktrTop dp un gd cn cs L a ccd cl outer) (call (.ref f) args) Q E s
def SpecXU (u:SkU) (w:World) (f:Addr) (args:List Value) (dz:Nat) (led:Led) (wr:List Addr) (Post:Value→Led→Prop) : Prop:=SpecXB (u 0 1) (u 35 1) (u 41 0) (u 7 4) (u 7 5) (u 12 7) (u 12 8) (u 42 0) (u 19 5) (u 43 0) (u 6 14) (u 10 22) (u 44 0) (u 45 0) (u 2 2) (u 5 2) (u 5 0) (u 6 0) (u 7 0) (u 62 0) (u 4 0) (u 3 1) (u 3 0) w f args dz led wr Post
abbrev KS1:=(World)→(Addr)→(List Value)→(Nat)→(List (Addr × Obj))→(List Addr)→(Value→List (Addr × Obj)→Prop)→Prop
def SpecSG (K:(World)→(Addr)→(List Value)→(Nat)→(List (Addr × Obj))→(List Addr)→(Value→List (Addr × Obj)→Prop)→Prop) (w:World) (A:Ad) (f:Addr) (args:List Value) (dz:Nat) (σ:Sg) (Post:Value→Sg→Prop) : Prop :=
  ∀ l,St w A σ l→K w f args dz l A.all fun v l'=>∃ σ',Post v σ'∧St w A σ' l'
section
noncomputable def P_sl_read (prog:Program) (w:World) (A:Around) (E:Value→Shared→Prop) (s:Shared) (h₀:Heap) (L l:Addr) (m:Str→Option Value) (value slice:PySem.Expr) (its:Array Value) (vl vu:Value) (lo hi:Option Int) (n:Nat) (Q:Value→Shared→Prop) (news:List (Prod Addr Obj)) : Prop:=∀ (F:Fr h₀ L s.heap m) (N:News h₀ L s.heap news) (hm:(l,listOf its n)∈news) (pl:IsPart vl lo) (pu:IsPart vu hi) (hz:its.size≤1000) (h:∀ D its' h',its'.size≤1000→its'.size=kms_hi hi its.size-kms_lo lo its.size→Fr h₀ L h' m→News h₀ L h' ((D,listOf its' 0)::news)→(∀ p∈news,p.1<D)→Q (.ref D) { s with heap:=h' }) (hs:subscripted slice false (.ref l) (.ref s.heap.objs.size)=operate [.ref s.heap.objs.size,.ref l] (getItem (.ref l) (.ref s.heap.objs.size))) (ht:∀ r,letTemporaryGo value (.ref l) r=pure ()),wpAny (model prog w) A (subscriptTail value slice (.ref l) (.ref s.heap.objs.size)) Q E { s with heap:=s.heap.push { cls:=.type "slice",data:=.fields #[vl,vu,.none] } }
end
section
noncomputable def P_wp_setSlice (prog:Program) (w:World) (A:Around) (E:Value→Shared→Prop) (s:Shared) (l:Addr) (its new:Array Value) (vl vu:Value) (lo hi:Option Int) (sl src:Addr) (Q:Unit→Shared→Prop) : Prop:=∀ (hl:s.heap.IsList l its) (hs:s.heap.IsSliceOf sl vl vu .none) (pl:IsPart vl lo) (pu:IsPart vu hi) (hsrc:s.heap.IsList src new) (hne:src≠l) (hz:its.size+new.size≤sizeLine) (h:∀ f:Array Value→Array Value,f its=its.extract 0 (kms_lo lo its.size)++new++its.extract (max (kms_lo lo its.size) (kms_hi hi its.size)) its.size→Q () { s with heap:=s.heap.update l (Obj.mapSeq f) }),wpAny (model prog w) A (setItem (.ref l) (.ref sl) (.ref src)) Q E s
end
section
noncomputable def P_sl_store (prog:Program) (w:World) (A:Around) (E:Value→Shared→Prop) (s:Shared) (h₀:Heap) (L l:Addr) (m:Str→Option Value) (its new:Array Value) (vl vu:Value) (lo hi:Option Int) (src:Addr) (n n2:Nat) (u:Obj→List (Prod Addr Obj)) (news:List (Prod Addr Obj)) (Q:Unit→Shared→Prop) : Prop:=∀ (F:Fr h₀ L s.heap m) (N:News h₀ L s.heap news) (hm:(src,listOf new n2)∈news) (U:UpdF l (listOf its n) news u) (hne:src≠l) (pl:IsPart vl lo) (pu:IsPart vu hi) (hz:its.size≤1000) (hz2:new.size≤1000) (h:∀ its' n' h',its'.size=kms_lo lo its.size+new.size+(its.size-max (kms_lo lo its.size) (kms_hi hi its.size))→Fr h₀ L h' m→News h₀ L h' (u (listOf its' n'))→Q () { s with heap:=h' }),wpAny (model prog w) A (setItem (.ref l) (.ref s.heap.objs.size) (.ref src)) Q E { s with heap:=s.heap.push { cls:=.type "slice",data:=.fields #[vl,vu,.none] } }
end
section
noncomputable def P_slb_read (prog:Program) (w:World) (A:Around) (E:Value→Shared→Prop) (s:Shared) (h₀:Heap) (L l:Addr) (m:Str→Option Value) (value slice:PySem.Expr) (its:Array Value) (tx ty:Tok) (n:Nat) (Q:Value→Shared→Prop) (news:List (Prod Addr Obj)) (x y:Int) : Prop:=∀ (F:Fr h₀ L s.heap m) (N:News h₀ L s.heap news) (hm:(l,listOf its n)∈news) (hz:its.size≤1000) (h0:0≤x) (h1:x≤y) (h2:y≤its.size) (h:∀ D its' h',its'.size≤1000→(its'.size:Int)=y-x→Fr h₀ L h' m→News h₀ L h' ((D,listOf its' 0)::news)→(∀ p∈news,p.1<D)→Q (.ref D) { s with heap:=h' }) (hs:subscripted slice false (.ref l) (.ref s.heap.objs.size)=operate [.ref s.heap.objs.size,.ref l] (getItem (.ref l) (.ref s.heap.objs.size))) (ht:∀ r,letTemporaryGo value (.ref l) r=pure ()),wpAny (model prog w) A (subscriptTail value slice (.ref l) (.ref s.heap.objs.size)) Q E { s with heap:=s.heap.push { cls:=.type "slice",data:=.fields #[.int x tx,.int y ty,.none] } }
end
section
noncomputable def P_slb_store (prog:Program) (w:World) (A:Around) (E:Value→Shared→Prop) (s:Shared) (h₀:Heap) (L l:Addr) (m:Str→Option Value) (its new:Array Value) (tx ty:Tok) (src:Addr) (n n2:Nat) (u:Obj→List (Prod Addr Obj)) (news:List (Prod Addr Obj)) (x y:Int) (Q:Unit→Shared→Prop) : Prop:=∀ (F:Fr h₀ L s.heap m) (N:News h₀ L s.heap news) (hm:(src,listOf new n2)∈news) (U:UpdF l (listOf its n) news u) (hne:src≠l) (hz:its.size≤1000) (hz2:new.size≤1000) (h0:0≤x) (h1:x≤y) (h2:y≤its.size) (h:∀ its' n' h',(its'.size:Int)=its.size-(y-x)+new.size→Fr h₀ L h' m→News h₀ L h' (u (listOf its' n'))→Q () { s with heap:=h' }),wpAny (model prog w) A (setItem (.ref l) (.ref s.heap.objs.size) (.ref src)) Q E { s with heap:=s.heap.push { cls:=.type "slice",data:=.fields #[.int x tx,.int y ty,.none] } }
end
section
noncomputable def P_gt_move (Kf:KS1) (w:World) (x dx c:Addr) (t1 t2 t3 t4 t5 t6 t7 t8:Tok) (its:Array Value) (n:Nat) (room gs ge at_:Int) : Prop:=∀ (hz:its.size≤1000) (h0:0≤gs) (h1:gs≤ge) (h2:ge≤its.size) (h3:0≤at_) (h4:at_≤its.size-ge+gs),Kf w 132 [.ref x,.int at_ t8] 1 [(x,instObj 177 dx),(dx,gapD w t1 t2 t3 t4 (.int room t5) c (.int gs t6) (.int ge t7)),(c,listOf its n)] [dx,c]
    (fun v led=>v=.none∧∃ its' n' u1 u2 ge',led=[(x,instObj 177 dx),(dx,gapD w t1 t2 t3 t4 (.int room t5) c (.int at_ u1) (.int ge' u2)),(c,listOf its' n')]∧its'.size=its.size∧ge'-at_=ge-gs)
end
section
noncomputable def P_gt_widen (Kf:KS1) (w:World) (x dx c:Addr) (t1 t2 t3 t4 t5 t6 t7 t8:Tok) (its:Array Value) (n:Nat) (room gs ge k:Int) : Prop:=∀ (hz:its.size≤900) (h0:0≤gs) (h1:gs≤ge) (h2:ge≤its.size) (hk0:0≤k) (hk1:k≤20) (hr0:0≤room) (hr1:room≤20),Kf w 139 [.ref x,.int k t8] 1 [(x,instObj 177 dx),(dx,gapD w t1 t2 t3 t4 (.int room t5) c (.int gs t6) (.int ge t7)),(c,listOf its n)] [dx,c]
    (fun v led=>v=.none∧∃ its' n' u1 u2 ge',led=[(x,instObj 177 dx),(dx,gapD w t1 t2 t3 t4 (.int room t5) c (.int gs u1) (.int ge' u2)),(c,listOf its' n')]∧((its'.size:Int)-ge'=its.size-ge∧gs+k≤ge'∧ge≤ge'∧ge'≤ge+k+room))
end
section
noncomputable def P_gt_insert (Kf:KS1) (w:World) (x dx c:Addr) (t1 t2 t3 t4 t5 t6 t7 t8:Tok) (its:Array Value) (n:Nat) (room gs ge at_:Int) (lc:Addr) (cs_:Array Value) (nc:Nat) : Prop:=∀ (hz:its.size≤900) (h0:0≤gs) (h1:gs≤ge) (h2:ge≤its.size) (h3:0≤at_) (h4:at_≤its.size-ge+gs) (hk1:cs_.size≤20) (hr0:0≤room) (hr1:room≤20) (hlc : @Ne Nat lc c),Kf w 146 [.ref x,.int at_ t8,.ref lc] 2 [(x,instObj 177 dx),(dx,gapD w t1 t2 t3 t4 (.int room t5) c (.int gs t6) (.int ge t7)),(c,listOf its n),(lc,listOf cs_ nc)] [dx,c]
    (fun v led=>v=.none∧∃ its' n' u1 u2 gs' ge',led=[(x,instObj 177 dx),(dx,gapD w t1 t2 t3 t4 (.int room t5) c (.int gs' u1) (.int ge' u2)),(c,listOf its' n'),(lc,listOf cs_ nc)]∧(0≤gs'∧gs'≤ge'∧ge'≤its'.size∧(its'.size:Int)-ge'+gs'=its.size-ge+gs+cs_.size∧its'.size≤its.size+cs_.size+room))
end
section
noncomputable def P_gt_codes (Kf:KS1) (w:World) (x dx c:Addr) (t1 t2 t3 t4 t5 t6 t7 t8 t9:Tok) (its:Array Value) (n:Nat) (room gs ge a0 b0:Int) : Prop:=∀ (hz:its.size≤900) (h0:0≤gs) (h1:gs≤ge) (h2:ge≤its.size) (h3:0≤a0) (h4:a0≤b0) (h5:b0≤its.size-ge+gs),Kf w 125 [.ref x,.int a0 t8,.int b0 t9] 1 [(x,instObj 177 dx),(dx,gapD w t1 t2 t3 t4 (.int room t5) c (.int gs t6) (.int ge t7)),(c,listOf its n)] []
    (fun v led=>(∃ r,v=.ref r)∧led=[(x,instObj 177 dx),(dx,gapD w t1 t2 t3 t4 (.int room t5) c (.int gs t6) (.int ge t7)),(c,listOf its n)])
end
section
noncomputable def P_gt_delete (Kf:KS1) (w:World) (x dx c:Addr) (t1 t2 t3 t4 t5 t6 t7 t8 t9:Tok) (its:Array Value) (n:Nat) (room gs ge a0 b0:Int) : Prop:=∀ (hz:its.size≤900) (h0:0≤gs) (h1:gs≤ge) (h2:ge≤its.size) (h3:0≤a0) (h4:a0≤b0) (h5:b0≤its.size-ge+gs),Kf w 153 [.ref x,.int a0 t8,.int b0 t9] 2 [(x,instObj 177 dx),(dx,gapD w t1 t2 t3 t4 (.int room t5) c (.int gs t6) (.int ge t7)),(c,listOf its n)] [dx,c]
    (fun v led=>(∃ r,v=.ref r)∧∃ its' n' u1 u2 gs' ge',led=[(x,instObj 177 dx),(dx,gapD w t1 t2 t3 t4 (.int room t5) c (.int gs' u1) (.int ge' u2)),(c,listOf its' n')]∧(0≤gs'∧gs'≤ge'∧ge'≤its'.size∧(its'.size:Int)-ge'+gs'=its.size-ge+gs-(b0-a0)∧its'.size≤its.size))
end
section
noncomputable def P_mk_put (Kf:KS1) (w:World) (kd r x xd:Addr) (o:Obj) (kvs:List (Prod Int Value)) (t1 t2 t3 t4 t5 t6 t7 t9:Tok) (i p0 p1:Int) (b:Value) (k:Addr) : Prop:=∀ (hro:IsRows w o kvs) (hz:kvs.length≤8),Kf w 284 [.ref k,.ref x,.int p1 t9] 1 [(k,instObj 322 kd),(kd,rowsD w t1 r),(r,o),(x,instObj 254 xd),(xd,mkD w t2 t3 t4 t5 (.int i t6) b (.int p0 t7))] [r,xd]
    (fun v led=>v=.none∧∃ o' u,led=[(k,instObj 322 kd),(kd,rowsD w t1 r),(r,o'),(x,instObj 254 xd),(xd,mkD w t2 t3 t4 t5 (.int i t6) b (.int p1 u))]∧IsRows w o' (stored kvs i (.ref x)))
end
section
noncomputable def P_mk_drop (Kf:KS1) (w:World) (kd r x xd:Addr) (o:Obj) (kvs:List (Prod Int Value)) (t1 t2 t3 t4 t5 t6 t7:Tok) (i p0:Int) (b v0:Value) (k:Addr) : Prop:=∀ (hro:IsRows w o kvs) (hz:kvs.length≤8) (lo:(r == sysModules)=false) (hv:valueAt kvs i=some v0),Kf w 291 [.ref k,.ref x] 1 [(k,instObj 322 kd),(kd,rowsD w t1 r),(r,o),(x,instObj 254 xd),(xd,mkD w t2 t3 t4 t5 (.int i t6) b (.int p0 t7))] [r]
    (fun v led=>v=.none∧∃ o',led=[(k,instObj 322 kd),(kd,rowsD w t1 r),(r,o'),(x,instObj 254 xd),(xd,mkD w t2 t3 t4 t5 (.int i t6) b (.int p0 t7))]∧IsRows w o' (without kvs i))
end
section
noncomputable def P_marks_loop (prog:Program) (w:World) (A0:Around) (E0:Value→Shared→Prop) (s:Shared) (env:Env) (h₀:Heap) (x y:Str) (body:List PySem.Stmt) (home:Int→Int) (hdr:Led) (D:Addr) (vs:List Value) (ns:List Int) (kvs:List (Prod Int Value)) (j:Int) (m₀:Str→Option Value) (f:Int→Int) (Q:Flow→Shared→Prop) (A:Ad) (I:List Int) (pos:Int→Int) (E:Int→Led) (rest:Led) (c:Nat) : Prop:=∀ (hh:A0.handled=none) (hi:IntsAre vs ns) (hp:ns.Perm (kvs.map (·.1))) (nd:(kvs.map (·.1)).Nodup) (hk:RowsOk A I home j kvs) (ndm:(I.flatMap A.mAd).Nodup) (hM:Marks w A I home pos E) (F:Fr h₀ env.locals s.heap m₀) (N:News h₀ env.locals s.heap ((D,listOf vs.toArray c)::(hdr++(I.flatMap E++rest)))) (ho1:Off (I.flatMap A.mAd) ((D,listOf vs.toArray c)::hdr)) (ho2:Off (I.flatMap A.mAd) rest) (turn:∀ (i p:Int) (t t1 t2 t3 t4 t5 t6:Tok) (u:Str→Option Value) (h:Heap) (tk:Nat) (RO:Led),i∈I→home i=j→valueAt kvs i=some (.ref (A.ma i))→Off (A.mAd i) ((D,listOf vs.toArray c)::hdr)→Off (A.mAd i) RO→@Ne Nat (A.ma i) (A.md i) →
      Fr h₀ env.locals h (fun z=>if z=x then some (.int i t) else if z=y then u z else m₀ z) →
      News h₀ env.locals h ((D,listOf vs.toArray c)::(hdr++((A.ma i,instObj 254 (A.md i))::(A.md i,mkD w t1 t2 t3 t4 (.int i t5) (bufV A (home i)) (.int p t6))::RO))) →
      wpAny (model prog w) A0 (execs body env) (MkTurn h₀ env.locals m₀ x y s fun t6'=>(D,listOf vs.toArray c)::(hdr++((A.ma i,instObj 254 (A.md i))::(A.md i,mkD w t1 t2 t3 t4 (.int i t5) (bufV A (home i)) (.int (f p) t6'))::RO))) E0 { s with heap:=h,toks:=tk }) (done:∀ m' E' h tk,(∀ z,z≠x→z≠y→m' z=m₀ z)→Fr h₀ env.locals h m'→Marks w A I home (fun i=>if home i=j then f (pos i) else pos i) E'→News h₀ env.locals h ((D,listOf vs.toArray c)::(hdr++(I.flatMap E'++rest)))→Q .next { s with heap:=h,toks:=tk }),wpAny (model prog w) A0 (pyIter (.ref D)) (fun it s₂=>LoopAtV prog w A0 h₀ env x body Q E0 it s₂) E0 s
end
section
noncomputable def P_mk_inserted (Kf:KS1) (w:World) (A:Ad) (I:List Int) (home pos:Int→Int) (EM:Int→Led) (kd r:Addr) (o:Obj) (kvs:List (Prod Int Value)) (t1 u1 u2:Tok) (j:Int) (k:Addr) (st en:Int) : Prop:=∀ (ndm:(I.flatMap A.mAd).Nodup) (hM:Marks w A I home pos EM) (hro:IsRows w o kvs) (lo:(r == sysModules)=false) (hz:kvs.length≤8) (hk:RowsOk A I home j kvs) (h3:Off (I.flatMap A.mAd) [(k,instObj 322 kd),(kd,rowsD w t1 r),(r,o)]),Kf w 305 [.ref k,.int st u1,.int en u2,.bool false] 2 ((k,instObj 322 kd)::(kd,rowsD w t1 r)::(r,o)::I.flatMap EM) (I.flatMap A.mAd)
    (fun v led=>v=.none∧∃ E',led=(k,instObj 322 kd)::(kd,rowsD w t1 r)::(r,o)::I.flatMap E'∧Marks w A I home (fun i=>if home i=j then (if st<pos i then pos i+en-st else pos i) else pos i) E')
end
section
noncomputable def P_mk_deleted (Kf:KS1) (w:World) (A:Ad) (I:List Int) (home pos:Int→Int) (EM:Int→Led) (kd r:Addr) (o:Obj) (kvs:List (Prod Int Value)) (t1 u1 u2:Tok) (j:Int) (k:Addr) (st en:Int) : Prop:=∀ (ndm:(I.flatMap A.mAd).Nodup) (hM:Marks w A I home pos EM) (hro:IsRows w o kvs) (lo:(r == sysModules)=false) (hz:kvs.length≤8) (hk:RowsOk A I home j kvs) (h3:Off (I.flatMap A.mAd) [(k,instObj 322 kd),(kd,rowsD w t1 r),(r,o)]),Kf w 312 [.ref k,.int st u1,.int en u2] 2 ((k,instObj 322 kd)::(kd,rowsD w t1 r)::(r,o)::I.flatMap EM) (I.flatMap A.mAd)
    (fun v led=>v=.none∧∃ E',led=(k,instObj 322 kd)::(kd,rowsD w t1 r)::(r,o)::I.flatMap E'∧Marks w A I home (fun i=>if home i=j then (if en<pos i then pos i-(en-st) else if st<pos i then st else pos i) else pos i) E')
end
section
noncomputable def P_BfOk_adr (w:World) (A:Ad) (I:List Int) (home:Int→Int) (j size point:Int) (mark:Value) (lim:Nat) (l:Led) : Prop:=∀ (h:BfOk w A I home j size point mark lim l),l.map (·.1)=A.bAd j
end
section
noncomputable def P_bf_size (Kf:KS1) (w:World) (A:Ad) (I:List Int) (home:Int→Int) (T:Nat→Tok) (vn vm ct st mark:Value) (tp tb tz u1 g1 g2 g3 g4 g5 g6 g7 tr:Tok) (ticks gs ge j size point:Int) (its:Array Value) (n lim:Nat) (o:Obj) (kvs:List (Prod Int Value)) : Prop:=∀ (h:BfIn w A I home j size lim its gs ge o kvs) (hl:lim≤800),Kf w 376 [.ref (A.b j)] 2 [(A.b j,instObj 428 (A.bd j)),(A.bd j,bufD w T vn vm (A.t j) (A.k j) (.int point tp) (.int 1 tb) (.int (size+1) tz) mark (.int ticks u1) ct st (A.ls j)),(A.t j,instObj 177 (A.td j)),(A.td j,gapD w g1 g2 g3 g4 (.int 8 g5) (A.c j) (.int gs g6) (.int ge g7)),(A.c j,listOf its n),(A.k j,instObj 322 (A.kd j)),(A.kd j,rowsD w tr (A.r j)),(A.r j,o),(A.ls j,listOf #[] 0)] []
    (fun v led=>(∃ t,v=.int size t)∧led=[(A.b j,instObj 428 (A.bd j)),(A.bd j,bufD w T vn vm (A.t j) (A.k j) (.int point tp) (.int 1 tb) (.int (size+1) tz) mark (.int ticks u1) ct st (A.ls j)),(A.t j,instObj 177 (A.td j)),(A.td j,gapD w g1 g2 g3 g4 (.int 8 g5) (A.c j) (.int gs g6) (.int ge g7)),(A.c j,listOf its n),(A.k j,instObj 322 (A.kd j)),(A.kd j,rowsD w tr (A.r j)),(A.r j,o),(A.ls j,listOf #[] 0)])
end
section
noncomputable def P_bf_goto (Kf:KS1) (w:World) (A:Ad) (T:Nat→Tok) (vn vm ct st mark:Value) (tp tb tz u1 g1 g2 g3 g4 g5 g6 g7 tr t9:Tok) (ticks gs ge j size point place:Int) (its:Array Value) (n:Nat) (o:Obj) : Prop:=∀ (ok:A.Ok) (hj:j∈sides),Kf w 397 [.ref (A.b j),.int place t9] 1 [(A.b j,instObj 428 (A.bd j)),(A.bd j,bufD w T vn vm (A.t j) (A.k j) (.int point tp) (.int 1 tb) (.int (size+1) tz) mark (.int ticks u1) ct st (A.ls j)),(A.t j,instObj 177 (A.td j)),(A.td j,gapD w g1 g2 g3 g4 (.int 8 g5) (A.c j) (.int gs g6) (.int ge g7)),(A.c j,listOf its n),(A.k j,instObj 322 (A.kd j)),(A.kd j,rowsD w tr (A.r j)),(A.r j,o),(A.ls j,listOf #[] 0)] [A.bd j]
    (fun v led=>∃ tp',(∃ t,v=.int (min (max place 1) (size+1)) t)∧led=[(A.b j,instObj 428 (A.bd j)),(A.bd j,bufD w T vn vm (A.t j) (A.k j) (.int (min (max place 1) (size+1)) tp') (.int 1 tb) (.int (size+1) tz) mark (.int ticks u1) ct st (A.ls j)),(A.t j,instObj 177 (A.td j)),(A.td j,gapD w g1 g2 g3 g4 (.int 8 g5) (A.c j) (.int gs g6) (.int ge g7)),(A.c j,listOf its n),(A.k j,instObj 322 (A.kd j)),(A.kd j,rowsD w tr (A.r j)),(A.r j,o),(A.ls j,listOf #[] 0)])
end
section
noncomputable def P_ed_behind (Kf:KS1) (w:World) (A:Ad) (T:Nat→Tok) (vn vm ct st mark:Value) (tp tb tz u1:Tok) (ticks j size point:Int) (v1 v2 v3:Value) : Prop:=∀ (ok:A.Ok) (hj:j∈sides),Kf w 458 [.ref (A.b j),v1,v2,v3] 2 [(A.b j,instObj 428 (A.bd j)),(A.bd j,bufD w T vn vm (A.t j) (A.k j) (.int point tp) (.int 1 tb) (.int size tz) mark (.int ticks u1) ct st (A.ls j)),(A.ls j,listOf #[] 0)] [A.bd j] (fun v led=>v=.none∧∃ ct' u1' ticks',led=[(A.b j,instObj 428 (A.bd j)),(A.bd j,bufD w T vn vm (A.t j) (A.k j) (.int point tp) (.int 1 tb) (.int size tz) mark (.int ticks' u1') ct' st (A.ls j)),(A.ls j,listOf #[] 0)])
end
section
noncomputable def P_ed_reached (Kf:(World)→(Addr)→(List Value)→(Nat)→(List (Addr × Obj))→(List Addr)→(Value→List (Addr × Obj)→List Addr→Prop)→Prop) (w:World) (A:Ad) (T:Nat→Tok) (vn vm ct st mark:Value) (tp tb tz u1 t8 t9:Tok) (ticks j size point st_ en_:Int) : Prop:=∀ (h1:1≤st_) (h2:1≤en_) (h3:st_≤size) (h4:en_≤size),Kf w 444 [.ref (A.b j),.int st_ t8,.int en_ t9] 1 [(A.b j,instObj 428 (A.bd j)),(A.bd j,bufD w T vn vm (A.t j) (A.k j) (.int point tp) (.int 1 tb) (.int size tz) mark (.int ticks u1) ct st (A.ls j))] []
  (fun v led fr=>∃ D t t',v=.ref D∧led=(D,{ cls:=.type "tuple",data:=.seq #[.int (min st_ en_) t,.int (max st_ en_) t'] })::[(A.b j,instObj 428 (A.bd j)),(A.bd j,bufD w T vn vm (A.t j) (A.k j) (.int point tp) (.int 1 tb) (.int size tz) mark (.int ticks u1) ct st (A.ls j))]∧fr=[D])
end
section
noncomputable def P_ed_insert (Kf:KS1) (w:World) (A:Ad) (home pos:Int→Int) (EM:Int→Led) (T:Nat→Tok) (vn vm ct st mark:Value) (tp tb tz u1 g1 g2 g3 g4 g5 g6 g7 tr t9:Tok) (ticks gs ge j size point place:Int) (its:Array Value) (n lim:Nat) (o:Obj) (kvs:List (Prod Int Value)) (I:List Int) (lc:Addr) (cs_:Array Value) (nc:Nat) : Prop:=∀ (ok:A.Ok) (hj:j∈sides) (h:BfIn w A I home j size lim its gs ge o kvs) (hl:lim≤800) (ndm:(I.flatMap A.mAd).Nodup) (hM:Marks w A I home pos EM) (hof:∀ a∈A.bAd j,a ∉ I.flatMap A.mAd) (hlc : @LT.lt Nat _ (A.ls j) lc) (hlm:lc ∉ I.flatMap A.mAd) (hp:1≤place) (hp2:place≤size+1) (hcs:cs_.size≤10),Kf w 501 [.ref (A.b j),.int place t9,.ref lc] 8 ([(A.b j,instObj 428 (A.bd j)),(A.bd j,bufD w T vn vm (A.t j) (A.k j) (.int point tp) (.int 1 tb) (.int (size+1) tz) mark (.int ticks u1) ct st (A.ls j)),(A.t j,instObj 177 (A.td j)),(A.td j,gapD w g1 g2 g3 g4 (.int 8 g5) (A.c j) (.int gs g6) (.int ge g7)),(A.c j,listOf its n),(A.k j,instObj 322 (A.kd j)),(A.kd j,rowsD w tr (A.r j)),(A.r j,o),(A.ls j,listOf #[] 0)]++(lc,listOf cs_ nc)::I.flatMap EM) ([A.bd j,A.td j,A.c j]++I.flatMap A.mAd)
    (fun v led=>v=.none∧∃ l' EM',led=l'++(lc,listOf cs_ nc)::I.flatMap EM'∧BfOk w A I home j (size+cs_.size) (if point > place then point+cs_.size else point) mark (lim+18) l' ∧
      Marks w A I home (fun i=>if home i=j then (if place<pos i then pos i+(place+cs_.size)-place else pos i) else pos i) EM')
end
section
noncomputable def P_ed_delete (Kf:KS1) (w:World) (A:Ad) (home pos:Int→Int) (EM:Int→Led) (T:Nat→Tok) (vn vm ct st mark:Value) (tp tb tz u1 g1 g2 g3 g4 g5 g6 g7 tr t8 t9:Tok) (ticks gs ge j size point:Int) (its:Array Value) (n lim:Nat) (o:Obj) (kvs:List (Prod Int Value)) (I:List Int) (s_ e_:Int) : Prop:=∀ (ok:A.Ok) (hj:j∈sides) (h:BfIn w A I home j size lim its gs ge o kvs) (hl:lim≤800) (ndm:(I.flatMap A.mAd).Nodup) (hM:Marks w A I home pos EM) (hof:∀ a∈A.bAd j,a ∉ I.flatMap A.mAd) (hp:1≤s_) (hlt:s_<e_) (hp2:e_≤size+1),Kf w 508 [.ref (A.b j),.int e_ t8,.int s_ t9] 8 ([(A.b j,instObj 428 (A.bd j)),(A.bd j,bufD w T vn vm (A.t j) (A.k j) (.int point tp) (.int 1 tb) (.int (size+1) tz) mark (.int ticks u1) ct st (A.ls j)),(A.t j,instObj 177 (A.td j)),(A.td j,gapD w g1 g2 g3 g4 (.int 8 g5) (A.c j) (.int gs g6) (.int ge g7)),(A.c j,listOf its n),(A.k j,instObj 322 (A.kd j)),(A.kd j,rowsD w tr (A.r j)),(A.r j,o),(A.ls j,listOf #[] 0)]++I.flatMap EM) ([A.bd j,A.td j,A.c j]++I.flatMap A.mAd)
    (fun v led=>(∃ r,v=.ref r)∧∃ l' EM',led=l'++I.flatMap EM'∧BfOk w A I home j (size-(e_-s_)) (if point > s_ then max s_ (point-(e_-s_)) else point) mark lim l' ∧
      Marks w A I home (fun i=>if home i=j then (if e_<pos i then pos i-(e_-s_) else if s_<pos i then s_ else pos i) else pos i) EM')
end
section
noncomputable def P_sm_noneB (Kf:KS1) (w:World) (A:Ad) (T':Nat→Tok) (vn' vm' x1 x2 x3 x4 x5 x6 x7 v v0:Value) (t1 t2 t3 t4 t5 t6 tr':Tok) (i h p0:Int) (o' X1 X2 X3 X4:Obj) (kvs':List (Prod Int Value)) : Prop:=∀ (ok:A.Ok) (hi:i∈ids) (hh:h∈sides) (hro:IsRows w o' kvs') (hz:kvs'.length≤8) (hv:valueAt kvs' i=some v0),Kf w 48 [.ref (A.ma i),.none,v] 4 ([(A.ma i,instObj 254 (A.md i)),(A.md i,mkD w t1 t2 t3 t4 (.int i t5) (.ref (A.b h)) (.int p0 t6))]++[(A.b h,instObj 428 (A.bd h)),(A.bd h,bufD w T' vn' vm' (A.t h) (A.k h) x1 x2 x3 x4 x5 x6 x7 (A.ls h)),(A.t h,X1),(A.td h,X2),(A.c h,X3),(A.k h,instObj 322 (A.kd h)),(A.kd h,rowsD w tr' (A.r h)),(A.r h,o'),(A.ls h,X4)]) [A.md i,A.r h] (fun v led=>v=.none∧∃ u o'',led=[(A.ma i,instObj 254 (A.md i)),(A.md i,mkD w t1 t2 t3 t4 (.int i t5) .none (.int 0 u))]++[(A.b h,instObj 428 (A.bd h)),(A.bd h,bufD w T' vn' vm' (A.t h) (A.k h) x1 x2 x3 x4 x5 x6 x7 (A.ls h)),(A.t h,X1),(A.td h,X2),(A.c h,X3),(A.k h,instObj 322 (A.kd h)),(A.kd h,rowsD w tr' (A.r h)),(A.r h,o''),(A.ls h,X4)]∧IsRows w o'' (without kvs' i))
end
section
noncomputable def P_sm_put0 (Kf:KS1) (w:World) (A:Ad) (home:Int→Int) (T:Nat→Tok) (vn vm ct st mark:Value) (tp tb tz u1 g1 g2 g3 g4 g5 g6 g7 tr t9:Tok) (ticks gs ge j size point place:Int) (its:Array Value) (n lim:Nat) (o:Obj) (kvs:List (Prod Int Value)) (t1 t2 t3 t4 t5 t6:Tok) (i p0:Int) : Prop:=∀ (ok:A.Ok) (hi:i∈ids) (hj:j∈sides) (hin:BfIn w A ids home j size lim its gs ge o kvs) (hl:lim≤800),Kf w 48 [.ref (A.ma i),.ref (A.b j),.int place t9] 4 ([(A.ma i,instObj 254 (A.md i)),(A.md i,mkD w t1 t2 t3 t4 (.int i t5) .none (.int p0 t6))]++[(A.b j,instObj 428 (A.bd j)),(A.bd j,bufD w T vn vm (A.t j) (A.k j) (.int point tp) (.int 1 tb) (.int (size+1) tz) mark (.int ticks u1) ct st (A.ls j)),(A.t j,instObj 177 (A.td j)),(A.td j,gapD w g1 g2 g3 g4 (.int 8 g5) (A.c j) (.int gs g6) (.int ge g7)),(A.c j,listOf its n),(A.k j,instObj 322 (A.kd j)),(A.kd j,rowsD w tr (A.r j)),(A.r j,o),(A.ls j,listOf #[] 0)]) [A.md i,A.r j] (fun v led=>v=.none∧∃ u o'',led=[(A.ma i,instObj 254 (A.md i)),(A.md i,mkD w t1 t2 t3 t4 (.int i t5) (.ref (A.b j)) (.int (min (max place 1) (size+1)) u))]++[(A.b j,instObj 428 (A.bd j)),(A.bd j,bufD w T vn vm (A.t j) (A.k j) (.int point tp) (.int 1 tb) (.int (size+1) tz) mark (.int ticks u1) ct st (A.ls j)),(A.t j,instObj 177 (A.td j)),(A.td j,gapD w g1 g2 g3 g4 (.int 8 g5) (A.c j) (.int gs g6) (.int ge g7)),(A.c j,listOf its n),(A.k j,instObj 322 (A.kd j)),(A.kd j,rowsD w tr (A.r j)),(A.r j,o''),(A.ls j,listOf #[] 0)]∧IsRows w o'' (stored kvs i (.ref (A.ma i))))
end
section
noncomputable def P_sm_putS (Kf:KS1) (w:World) (A:Ad) (home:Int→Int) (T:Nat→Tok) (vn vm ct st mark:Value) (tp tb tz u1 g1 g2 g3 g4 g5 g6 g7 tr t9:Tok) (ticks gs ge j size point place:Int) (its:Array Value) (n lim:Nat) (o:Obj) (kvs:List (Prod Int Value)) (t1 t2 t3 t4 t5 t6:Tok) (i p0:Int) : Prop:=∀ (ok:A.Ok) (hi:i∈ids) (hj:j∈sides) (hin:BfIn w A ids home j size lim its gs ge o kvs) (hl:lim≤800),Kf w 48 [.ref (A.ma i),.ref (A.b j),.int place t9] 4 ([(A.ma i,instObj 254 (A.md i)),(A.md i,mkD w t1 t2 t3 t4 (.int i t5) (.ref (A.b j)) (.int p0 t6))]++[(A.b j,instObj 428 (A.bd j)),(A.bd j,bufD w T vn vm (A.t j) (A.k j) (.int point tp) (.int 1 tb) (.int (size+1) tz) mark (.int ticks u1) ct st (A.ls j)),(A.t j,instObj 177 (A.td j)),(A.td j,gapD w g1 g2 g3 g4 (.int 8 g5) (A.c j) (.int gs g6) (.int ge g7)),(A.c j,listOf its n),(A.k j,instObj 322 (A.kd j)),(A.kd j,rowsD w tr (A.r j)),(A.r j,o),(A.ls j,listOf #[] 0)]) [A.md i,A.r j] (fun v led=>v=.none∧∃ u o'',led=[(A.ma i,instObj 254 (A.md i)),(A.md i,mkD w t1 t2 t3 t4 (.int i t5) (.ref (A.b j)) (.int (min (max place 1) (size+1)) u))]++[(A.b j,instObj 428 (A.bd j)),(A.bd j,bufD w T vn vm (A.t j) (A.k j) (.int point tp) (.int 1 tb) (.int (size+1) tz) mark (.int ticks u1) ct st (A.ls j)),(A.t j,instObj 177 (A.td j)),(A.td j,gapD w g1 g2 g3 g4 (.int 8 g5) (A.c j) (.int gs g6) (.int ge g7)),(A.c j,listOf its n),(A.k j,instObj 322 (A.kd j)),(A.kd j,rowsD w tr (A.r j)),(A.r j,o''),(A.ls j,listOf #[] 0)]∧IsRows w o'' (stored kvs i (.ref (A.ma i))))
end
section
noncomputable def P_sm_move (Kf:KS1) (w:World) (A:Ad) (home:Int→Int) (T:Nat→Tok) (vn vm ct st mark:Value) (tp tb tz u1 g1 g2 g3 g4 g5 g6 g7 tr t9:Tok) (ticks gs ge j size point place:Int) (its:Array Value) (n lim:Nat) (o:Obj) (kvs:List (Prod Int Value)) (T':Nat→Tok) (vn' vm' x1 x2 x3 x4 x5 x6 x7 v0:Value) (t1 t2 t3 t4 t5 t6 tr':Tok) (i h p0:Int) (o' X1 X2 X3 X4:Obj) (kvs':List (Prod Int Value)) : Prop:=∀ (ok:A.Ok) (hi:i∈ids) (hj:j∈sides) (hh:h∈sides) (hne:h≠j) (hro':IsRows w o' kvs') (hz':kvs'.length≤8) (hv:valueAt kvs' i=some v0) (hin:BfIn w A ids home j size lim its gs ge o kvs) (hl:lim≤800),Kf w 48 [.ref (A.ma i),.ref (A.b j),.int place t9] 4 ([(A.ma i,instObj 254 (A.md i)),(A.md i,mkD w t1 t2 t3 t4 (.int i t5) (.ref (A.b h)) (.int p0 t6))]++([(A.b h,instObj 428 (A.bd h)),(A.bd h,bufD w T' vn' vm' (A.t h) (A.k h) x1 x2 x3 x4 x5 x6 x7 (A.ls h)),(A.t h,X1),(A.td h,X2),(A.c h,X3),(A.k h,instObj 322 (A.kd h)),(A.kd h,rowsD w tr' (A.r h)),(A.r h,o'),(A.ls h,X4)]++[(A.b j,instObj 428 (A.bd j)),(A.bd j,bufD w T vn vm (A.t j) (A.k j) (.int point tp) (.int 1 tb) (.int (size+1) tz) mark (.int ticks u1) ct st (A.ls j)),(A.t j,instObj 177 (A.td j)),(A.td j,gapD w g1 g2 g3 g4 (.int 8 g5) (A.c j) (.int gs g6) (.int ge g7)),(A.c j,listOf its n),(A.k j,instObj 322 (A.kd j)),(A.kd j,rowsD w tr (A.r j)),(A.r j,o),(A.ls j,listOf #[] 0)])) [A.md i,A.r h,A.r j] (fun v led=>v=.none∧∃ u o1 o'',led=[(A.ma i,instObj 254 (A.md i)),(A.md i,mkD w t1 t2 t3 t4 (.int i t5) (.ref (A.b j)) (.int (min (max place 1) (size+1)) u))]++([(A.b h,instObj 428 (A.bd h)),(A.bd h,bufD w T' vn' vm' (A.t h) (A.k h) x1 x2 x3 x4 x5 x6 x7 (A.ls h)),(A.t h,X1),(A.td h,X2),(A.c h,X3),(A.k h,instObj 322 (A.kd h)),(A.kd h,rowsD w tr' (A.r h)),(A.r h,o1),(A.ls h,X4)]++[(A.b j,instObj 428 (A.bd j)),(A.bd j,bufD w T vn vm (A.t j) (A.k j) (.int point tp) (.int 1 tb) (.int (size+1) tz) mark (.int ticks u1) ct st (A.ls j)),(A.t j,instObj 177 (A.td j)),(A.td j,gapD w g1 g2 g3 g4 (.int 8 g5) (A.c j) (.int gs g6) (.int ge g7)),(A.c j,listOf its n),(A.k j,instObj 322 (A.kd j)),(A.kd j,rowsD w tr (A.r j)),(A.r j,o''),(A.ls j,listOf #[] 0)])∧IsRows w o1 (without kvs' i)∧IsRows w o'' (stored kvs i (.ref (A.ma i))))
end
section
noncomputable def P_BfOk_rehome (w:World) (A:Ad) (I:List Int) (home home':Int→Int) (j size point:Int) (mark:Value) (lim:Nat) (l:Led) : Prop:=∀ (h:BfOk w A I home j size point mark lim l) (k:∀ kvs,RowsOk A I home j kvs→RowsOk A I home' j kvs),BfOk w A I home' j size point mark lim l
end
section
noncomputable def P_st_set_none (w:World) (A:Ad) (σ:Sg) (i:Int) (v:Value) : Prop:=∀ (ok:A.Ok) (hi:i∈ids) (hh:σ.home i=-1∨σ.home i∈sides),SpecS w A 48 [.ref (A.ma i),.none,v] 4 σ fun r σ'=>r=.none∧σ'={ σ with home:=upd σ.home i (-1),pos:=upd σ.pos i 0 }
end
section
noncomputable def P_st_set (w:World) (A:Ad) (σ:Sg) (i j place:Int) (t9:Tok) : Prop:=∀ (ok:A.Ok) (hi:i∈ids) (hj:j∈sides) (hh:σ.home i=-1∨σ.home i∈sides) (hl:σ.lim≤800),SpecS w A 48 [.ref (A.ma i),.ref (A.b j),.int place t9] 4 σ fun r σ'=>r=.none∧σ'={ σ with home:=upd σ.home i j,pos:=upd σ.pos i (min (max place 1) (σ.size j+1)) }
end
section
noncomputable def P_st_bmark (w:World) (A:Ad) (A0:Around) (E Q:Value→Shared→Prop) (s:Shared) (h₀:Heap) (L:Addr) (m:Str→Option Value) (news:Led) (σ:Sg) (j:Int) (expr:Bool) (S:Led) (v:Value) : Prop:=∀ (hS:St w A σ S) (F:Fr h₀ L s.heap m) (X:(Mine.hd.heap_1 w.params).In h₀) (N:News h₀ L s.heap news) (hl:∀ p∈S,p∈news) (hj:j∈sides) (e:σ.mark A j=v) (h:Q v { s with toks:=s.toks+1 }),wpAny (model PySem.Challenge.rw_ok0063_01.prog w) A0 (getAttr (.ref (A.b j)) (ofString "mark") expr) Q E s
end
section
noncomputable def P_st_mgoto (w:World) (A:Ad) (A0:Around) (E:Value→Shared→Prop) (s:Shared) (h₀:Heap) (L:Addr) (m:Str→Option Value) (news:Led) (σ:Sg) (j:Int) (pl:Sem Bool) (Q2:Prod Value (List Value)→Shared→Prop) (S:Led) : Prop:=∀ (hS:St w A σ S) (F:Fr h₀ L s.heap m) (X:(Mine.hd.heap_1 w.params).In h₀) (N:News h₀ L s.heap news) (hl:∀ p∈S,p∈news) (hj:j∈sides) (h:Q2 (.ref 397,[.ref (A.b j)]) s),wpAny (model PySem.Challenge.rw_ok0063_01.prog w) A0 (getMethod (.ref (A.b j)) (ofString "goto") pl) Q2 E s
end
section
noncomputable def P_st_size (w:World) (A:Ad) (σ:Sg) (j:Int) : Prop:=∀ (ok:A.Ok) (hj:j∈sides) (hl:σ.lim≤800),SpecS w A 376 [.ref (A.b j)] 2 σ fun v σ'=>(∃ t,v=.int (σ.size j) t)∧σ'=σ
end
section
noncomputable def P_st_goto (w:World) (A:Ad) (σ:Sg) (j place:Int) (t9:Tok) : Prop:=∀ (ok:A.Ok) (hj:j∈sides),SpecS w A 397 [.ref (A.b j),.int place t9] 1 σ fun v σ'=>(∃ t,v=.int (min (max place 1) (σ.size j+1)) t)∧σ'={ σ with point:=upd σ.point j (min (max place 1) (σ.size j+1)) }
end
section
noncomputable def P_st_bget (w:World) (A:Ad) (s:Shared) (h₀:Heap) (L:Addr) (news:Led) (σ:Sg) (j:Int) (S:Led) : Prop:=∀ (hS:St w A σ S) (N:News h₀ L s.heap news) (hl:∀ p∈S,p∈news) (hj:j∈sides),s.heap.get? (A.b j)=some (instObj 428 (A.bd j))
end
section
noncomputable def P_st_like (w:World) (A:Ad) (σ:Sg) (i k:Int) : Prop:=∀ (ok:A.Ok) (hi:i∈ids) (hk:k∈ids) (hh:σ.home i=-1∨σ.home i∈sides) (hh2:σ.home k=-1∨σ.home k∈sides) (hl:σ.lim≤800) (hz:σ.home k=-1→σ.pos k=0) (hp:σ.home k∈sides→1≤σ.pos k∧σ.pos k≤σ.size (σ.home k)+1),SpecS w A 55 [.ref (A.ma i),.ref (A.ma k)] 6 σ fun v σ'=>v=.none∧σ'={ σ with home:=upd σ.home i (σ.home k),pos:=upd σ.pos i (σ.pos k) }
end
section
noncomputable def P_st_gotom (w:World) (A:Ad) (σ:Sg) (i j:Int) : Prop:=∀ (ok:A.Ok) (hi:i∈ids) (hj:j∈sides) (e:σ.home i=j),SpecS w A 69 [.ref (A.b j),.ref (A.ma i)] 4 σ fun v σ'=>(∃ t,v=.int (min (max (σ.pos i) 1) (σ.size j+1)) t)∧σ'={ σ with point:=upd σ.point j (min (max (σ.pos i) 1) (σ.size j+1)) }
end
section
noncomputable def P_st_region (Kf:KS1) (w:World) (A:Ad) (σ:Sg) (h:Int) (l:Led) : Prop:=∀ (hm:σ.marked=true) (e:σ.home 3=h) (hh:h∈sides) (hS:St w A σ l),Kf w 83 [.ref (A.b 0)] 2 l A.all fun v l'=>∃ D t t' l2,v=.ref D∧l'=(D,{ cls:=.type "tuple",data:=.seq #[.int (min (σ.pos 3) (σ.point 0)) t,.int (max (σ.pos 3) (σ.point 0)) t'] })::l2∧D ∉ A.all∧St w A σ l2
end
section
noncomputable def P_st_exch (w:World) (A:Ad) (σ:Sg) : Prop:=∀ (ok:A.Ok) (hm:σ.marked=true) (e:σ.home 3=0) (hl:σ.lim≤800),SpecS w A 90 [.ref (A.b 0)] 6 σ fun v σ'=>v=.none∧σ'={ σ with home:=upd σ.home 3 0,pos:=upd σ.pos 3 (min (max (σ.point 0) 1) (σ.size 0+1)),point:=upd σ.point 0 (min (max (σ.pos 3) 1) (σ.size 0+1)) }
end
section
noncomputable def P_BfOk_mono (w:World) (A:Ad) (I:List Int) (home:Int→Int) (j size point:Int) (mark:Value) (lim lim':Nat) (l:Led) : Prop:=∀ (h:BfOk w A I home j size point mark lim l) (k:lim≤lim'),BfOk w A I home j size point mark lim' l
end
section
noncomputable def P_st_insert (w:World) (A:Ad) (σ:Sg) (place:Int) (t9:Tok) (lc:Addr) (cs_:Array Value) (nc:Nat) (j:Int) (l:Led) : Prop:=∀ (ok:A.Ok) (hj:j∈sides) (hl:σ.lim≤800) (hlc : @LT.lt Nat _ (A.ls j) lc) (hlm:lc ∉ A.all) (hp:1≤place) (hp2:place≤σ.size j+1) (hcs:cs_.size≤10) (hS:St w A σ l),Spec w 501 [.ref (A.b j),.int place t9,.ref lc] 8 ((lc,listOf cs_ nc)::l) A.all fun v led=>v=.none∧∃ l',led=(lc,listOf cs_ nc)::l'∧St w A (σ.edit j place place cs_.size) l'
end
section
noncomputable def P_st_delete (w:World) (A:Ad) (σ:Sg) (s_ e_:Int) (t8 t9:Tok) (j:Int) (l:Led) : Prop:=∀ (ok:A.Ok) (hj:j∈sides) (hl:σ.lim≤800) (hp:1≤s_) (hlt:s_<e_) (hp2:e_≤σ.size j+1) (hS:St w A σ l),Spec w 508 [.ref (A.b j),.int e_ t8,.int s_ t9] 8 l A.all fun v l'=>∃ σ',((∃ r,v=.ref r)∧σ'=σ.edit j s_ e_ 0)∧St w A σ' l'
end
section
noncomputable def P_xc_entry (prog:Program) (w:World) (A:Around) (E:Value→Shared→Prop) (h:Heap) (g:Array GenState) (d:Drawn) (t:Nat) (os:OsState) (dx:Addr) (o:Obj) (nm q:Str) (N:Addr) (bs bm:List Value) (sn:List Str) (sub:List Value) (ab:Bool) (col:Option Bool) (dd:Option Addr) (k0 k1 k2 k3 k5:Option Value) (B newId:String) (mN mA:Str→Option Value) (name:Str) (v:Value) (tk:Tok) (x C:Addr) (Q:Fin→Shared→Prop) : Prop:=∀ (hm:mroOf (.type B)=pure bm) (hC:h.get? C=some (excClassObj nm q C N bs bm true sn sub ab col dd k0 k1 k2 k3 k5 newId)) (hn:h.Ns N mN) (hna:mN name=none) (hB:typeLookup (.type B) name=pure none) (hx:h.get? x=some o) (hc:o.cls=.ref C) (hnc:∀ c,o.data≠.cls c) (hdx:o.dict=some dx) (hns:h.Ns dx mA) (hv:mA name=some v) (hq:Q (.done (.ret v)) ⟨h,g,d,t,os⟩),wpAny (model prog w) A (Builtin.«object.__getattribute__» ⟨[.ref x,.str name tk],[]⟩) Q E ⟨h,g,d,t,os⟩
end
section
noncomputable def P_raise_stmt (prog:Program) (w:World) (A:Around) (E:Value→Shared→Prop) (s:Shared) (env:Env) (x:Sem Value) (Q:Flow→Shared→Prop) : Prop:=∀ (hh:A.handled=none) (h:wpAny (model prog w) A x (fun v s₁=>∃ e d vs,v=.ref e∧(Mine.hd.heap_1 w.params).In s₁.heap∧s₁.heap.get? e=some (excOd vs d)∧vs[1]?=some .none∧E (.ref e) s₁) E s),wpAny (model prog w) A (raiseStmt env (some x) none) Q E s
end
section
noncomputable def P_r_goto1 (Kf:(World)→(Addr)→(List Value)→(Nat)→(Led)→Prop) (w:World) (σ:Sg) (i j:Int) (A:Ad) (h:Int) (l:Led) : Prop:=∀ (ok:A.Ok) (hi:i∈ids) (hj:j∈sides) (hh:h∈sides) (e:σ.home i=h) (hne:h≠j) (hS:St w A σ l),Kf w 69 [.ref (A.b j),.ref (A.ma i)] 6 l
end
section
noncomputable def P_x_refused (w:World) (fn:Addr) (dz:Nat) (led:Led) (fo:Obj) (fd:FuncData) (p:Program) (loose:List Str) (mean:ExcName→Option Value) (mg mb:Str→Option Value) (dp un:Nat) (gd:Option (List Code)) (cn:Str) (cs:Scope) (a:Addr) (ccd:Value) (cl:List (Prod Str Addr)) (outer:List Env) (A₀:Around) (base h₀:Heap) (L:Addr) (m:Str→Option Value) (s:Shared) (Q E:Value→Shared→Prop) (rest:Led) : Prop:=∀ (S:SpecR w fn [] dz led) (hfn:(fn,fo)∈led) (hfo:fo.data=.func fd) (B:Below A₀ base outer h₀) (F:Fr h₀ L s.heap m) (X:(Mine.hd.heap_1 w.params).In h₀) (N:News h₀ L s.heap (led++rest)) (Tp:Top p loose mean mg mb h₀) (XB:(Mine.hd.heap_1 w.params).In base) (TB:Top p loose mean mg mb base) (D:KtsDicts (outer.filterMap (·.frame)) h₀) (hk:cs.kind=.function) (hd:dp+(dz+2)<recursionLimit) (hu:un+8 * (dz+2)<cLine) (ret:∀ h₀' h' tk',KtsTurn (outer.filterMap (·.frame)) h₀ h₀'→Fr h₀' L h' m→News h₀' L h' (led++rest)→Below A₀ base outer h₀'→(Mine.hd.heap_1 w.params).In h₀'→Top p loose mean mg mb h₀'→KtsDicts (outer.filterMap (·.frame)) h₀'→Q (.bool true) { s with heap:=h',toks:=tk' }),wpAny (model PySem.Challenge.rw_ok0063_01.prog w) (ktrTop dp un gd cn cs L a ccd cl outer) (call (.ref 527) [.ref fn]) Q E s
end
section
noncomputable def P_enterXC (prog:Program) (w:World) (A A₀:Around) (s:Shared) (K:PySem.W.Frag) (L:Addr) (h₀ base:Heap) (m mg mb:Str→Option Value) (news:Led) (p:Program) (loose:List Str) (mean:ExcName→Option Value) (env:Env) (outer:List Env) (m' cm':Str→Option Value) (binds:List (Prod Str Value)) (args:Args) (R:Result→Shared→Prop) (name qual:Str) (params:Arguments) (body:List PySem.Stmt) (scope:Scope) (dV kV doc pm cdv ct oc:Value) (an od:Option Addr) (osl:Array (Option Value)) (f:Addr) : Prop:=∀ (B:Below A₀ base outer h₀) (F:Fr h₀ L s.heap m) (X₀:K.In h₀) (N:News h₀ L s.heap news) (T:Top p loose mean mg mb h₀) (XB:K.In base) (TB:Top p loose mean mg mb base) (D:KtsDicts (outer.filterMap (·.frame)) h₀) (hA:A.frames=some (env::outer)) (hf:env.frame=some L) (hke:env.scope.kind=.function) (ho:K.lookup f=some ⟨oc,od,.func (fnOf name qual params body scope dV kV doc pm an cdv ct),osl⟩) (hcd:codeIn K cdv qual=true) (hroom:A.depth<recursionLimit) (hbind:BindsTo s (fnOf name qual params body scope dV kV doc pm an cdv ct) args binds) (hkind:(binds.all fun y=>scope.names.lookup y.1 == some .local || scope.names.lookup y.1 == some .cell)=true) (hnd:((cellsFrom 0 scope.names []).map (·.1)).Nodup) (hm':∀ L',bindL (envOfC qual scope L' f cdv).kindOf binds (fun _=>none)=m') (hcm':∀ L',bindC (envOfC qual scope L' f cdv).kindOf binds (fun _=>none)=cm') (h:∀ g L' h₁ tk cells (P:Flow→Shared→Prop),(∀ v g' L' m' news' s',KtsTurn ((env::outer).filterMap (·.frame)) g g'→Fr g' L' s'.heap m'→News g' L' s'.heap news'→(∀ h₀',KtsTurn (outer.filterMap (·.frame)) h₀ h₀'→Fr h₀' L s'.heap m→News h₀' L s'.heap news'→Below A₀ base outer h₀'→K.In h₀'→Top p loose mean mg mb h₀'→KtsDicts (outer.filterMap (·.frame)) h₀'→R (.ok (.ret v)) s')→P (.ret v) s') →
      Fr h₀ L g m→Fr g L' h₁ m'→News g L' h₁ (cells++news)→CellsAre cm' (cellsFrom (L'+1) scope.names []) cells →
      Below A base (env::outer) g→K.In g→Top p loose mean mg mb g→KtsDicts ((env::outer).filterMap (·.frame)) g→(∀ p∈news,p.1<L') →
      wpAny (model prog w) (A.deeper (envOfC qual scope L' f cdv)) (execs body (envOfC qual scope L' f cdv)) P
        (fun e s'=>wpAny (model prog w) (A.deeper (envOfC qual scope L' f cdv)) (leaving (envOfC qual scope L' f cdv) e) (fun _ s''=>R (.error e) s'') (fun e' s''=>R (.error e') s'') s')
        { s with heap:=h₁,toks:=tk }) (hco:scope.isCoroutine=false) (hgen:scope.isGenerator=false) (hk:scope.kind=.function),codeAny (model prog w) A (.call (.ref f) args) R s
end
section
noncomputable def P_loopX (prog:Program) (w:World) (A:Around) (s:Shared) (env:Env) (h₀:Heap) (target:PySem.Expr) (body:List PySem.Stmt) (C:Heap→Prop) (R:Result→Shared→Prop) (I:Addr) (fp wr:List Addr) (n:Nat) (P Md:Nat→Value→Heap→Prop) (m:Str→Option Value) (news:Led) (St:Nat→Heap→Prop) (J:Nat→(Str→Option Value)→Led→Prop) : Prop:=∀ (W:KTurns prog w A target I fp wr n P Md St) (hLf:env.locals ∉ fp) (hC:C h₀) (hfp:∀ h₀,C h₀→∀ b∈fp,h₀.get? b=none) (hnw:∀ p∈news,p.1 ∉ wr) (hst:St 0 s.heap) (F:Fr h₀ env.locals s.heap m) (N:News h₀ env.locals s.heap news) (h0:J 0 m news) (step:∀ i v h₀ m₁ news₁ h₁ tk₁ own,C h₀→i<n→P i v h₁→J i m₁ news₁→(∀ p∈news₁,p.1 ∉ wr)→(∀ p∈own,p.1∈fp)→(∀ b∈fp,∀ o,h₁.get? b=some o→(b,o)∈own)→St (i+1) h₁ →
      Fr h₀ env.locals h₁ m₁→News h₀ env.locals h₁ (own++news₁) →
      wpAny (model prog w) A (assign target env v) (fun _ s₂=>wpAny (model prog w) A (execs body env)
        (fun fl s'=>fl=.next∧∃ h₀' h' tk m' news',C h₀'∧s'={ s with heap:=h',toks:=tk }∧Fr h₀' env.locals h' m'∧News h₀' env.locals h' (own++news')∧(∀ p∈news',p.1 ∉ wr)∧J (i+1) m' news') (notedBy (model prog w) A env fun e s'=>R (.error e) s') s₂) (notedBy (model prog w) A env fun e s'=>R (.error e) s') { s with heap:=h₁,toks:=tk₁ }) (hR:∀ h₀' h' tk m' news',C h₀'→Fr h₀' env.locals h' m'→News h₀' env.locals h' news'→J n m' news'→R (.ok .next) { s with heap:=h',toks:=tk }),codeAny (model prog w) A (.forLoop target (.ref I) body [] env) R s
end
section
noncomputable def P_lam_make (M:Model) (A:Around) (E:Value→Shared→Prop) (s:Shared) (h₀:Heap) (L a:Addr) (m mg mb:Str→Option Value) (cn:Str) (cs:Scope) (ccd:Value) (cl:List (Prod Str Addr)) (p:Program) (loose:List Str) (mean:ExcName→Option Value) (name qual:Str) (params:Arguments) (scope:Scope) (pos:Pos) (firstLine:Nat) (clos:List (Prod Str Addr)) (Q:Value→Shared→Prop) (c P:Addr) (rest Tl:Led) (body:PySem.Expr) : Prop:=∀ (F:Fr h₀ L s.heap m) (N:News h₀ L s.heap (Tl++rest)) (T:Top p loose mean mg mb h₀) (C:CodeHd h₀ c P) (hcd:ccd=.ref c) (hT:TabL P qual Tl) (hr:∀ q∈rest,q.1≠P) (hcl:closureFor scope (envX cn cs L a ccd cl)=pure clos) (h:∀ f c' ctv pm Tl' h' tk,TabL P qual Tl'→Fr h₀ L h' m→News h₀ L h' ((f,kla_obj name qual params body scope clos pm c' ctv)::(Tl'++rest))→(∃ oc vs t,(c',oc)∈Tl'∧oc.data=.fields vs∧vs[1]?=some (.str qual t))→(∀ q∈Tl++rest,q.1<f)→(∀ q∈Tl',q.1∈Tl.map (·.1)∨∀ p∈Tl++rest,p.1<q.1)→Q (.ref f) { s with heap:=h',toks:=tk }),wpAny M A (makeFunction name qual params (.expr body) scope (envX cn cs L a ccd cl) [] [] [] pos firstLine) Q E s
end
section
noncomputable def P_zipX (prog:Program) (w:World) (A:Around) (E:Value→Shared→Prop) (s:Shared) (env:Env) (h₀:Heap) (body:List PySem.Stmt) (elts:List PySem.Expr) (k:Nat) (pos:Pos) (l1 l2:Addr) (n1 n2:Nat) (xs ys:List Value) (m:Str→Option Value) (news:Led) (C:Heap→Prop) (Q:Flow→Shared→Prop) : Prop:=∀ (hh:A.handled=none) (hC:C h₀) (hCn:∀ h,C h→∀ b,h₀.get? b=none→h.get? b=none) (F:Fr h₀ env.locals s.heap m) (N:News h₀ env.locals s.heap news) (h1:(l1,listOf xs.toArray n1)∈news) (h2:(l2,listOf ys.toArray n2)∈news) (hlen:xs.length=ys.length) (rest:∀ I:Nat,(∀ p∈news,p.1<I)→∃ J:Nat→(Str→Option Value)→Led→Prop,J 0 m news ∧
      (∀ i x y,xs[i]?=some x→ys[i]?=some y→StepX w prog A E C env (.Tuple elts k pos) body s I l1 l2 J i x y) ∧
      ∀ h₀' h' tk m' news',C h₀'→Fr h₀' env.locals h' m'→News h₀' env.locals h' news'→J xs.length m' news'→Q .next { s with heap:=h',toks:=tk }),wpAny (model prog w) A (call (.type "zip") [.ref l1,.ref l2]) (fun xv s₁=>wpAny (model prog w) A (pyIter xv) (fun it s₂=>LoopsX prog w A env (.Tuple elts k pos) body Q E it s₂) E s₁) E s
end
section
noncomputable def P_st_numbers (w:World) (σ:Sg) (j:Int) (A:Ad) (l:Led) : Prop:=∀ (ok:A.Ok) (hj:j∈sides) (hS:St w A σ l),Spec w 277 [.ref (A.k j)] 1 l [] fun v l'=>∃ D vs c,v=.ref D∧l'=(D,listOf (List.toArray vs) c)::l∧IntsAre vs (ids.filter (fun i=>decide (σ.home i=j)))
end
section
noncomputable def P_enumX (prog:Program) (w:World) (A:Around) (E:Value→Shared→Prop) (s:Shared) (env:Env) (h₀:Heap) (body:List PySem.Stmt) (elts:List PySem.Expr) (k:Nat) (pos:Pos) (l1:Addr) (n1:Nat) (xs:List Value) (m:Str→Option Value) (news:Led) (C:Heap→Prop) (Q:Flow→Shared→Prop) : Prop:=∀ (hh:A.handled=none) (hC:C h₀) (hCn:∀ h,C h→∀ b,h₀.get? b=none→h.get? b=none) (F:Fr h₀ env.locals s.heap m) (N:News h₀ env.locals s.heap news) (h1:(l1,listOf xs.toArray n1)∈news) (rest:∀ I:Nat,(∀ p∈news,p.1<I)→∃ J:Nat→(Str→Option Value)→Led→Prop,J 0 m news ∧
      (∀ i x,xs[i]?=some x→StepE w prog A E C env (.Tuple elts k pos) body s I l1 J i x) ∧
      ∀ h₀' h' tk m' news',C h₀'→Fr h₀' env.locals h' m'→News h₀' env.locals h' news'→J xs.length m' news'→Q .next { s with heap:=h',toks:=tk }),wpAny (model prog w) A (call (.type "enumerate") [.ref l1]) (fun xv s₁=>wpAny (model prog w) A (pyIter xv) (fun it s₂=>LoopsX prog w A env (.Tuple elts k pos) body Q E it s₂) E s₁) E s
end
section
noncomputable def P_st_same0 (Kf:KS1) (w:World) (σ:Sg) (i:Int) (A:Ad) (k:Int) (l:Led) : Prop:=∀ (ok:A.Ok) (hi:i∈ids) (hk:k∈ids) (hh:σ.home i=-1∨σ.home i∈sides) (hh2:σ.home k=-1∨σ.home k∈sides) (hS:St w A σ l),Kf w 76 [.ref (A.ma i),.ref (A.ma k)] 2 l [] fun v l'=>v=.bool (decide (σ.home i=σ.home k∧σ.pos i=σ.pos k))∧l'=l
end
section
open PyProof.V PyProof.Rows.LCg
noncomputable def P_compC (prog:Program) (w:World) (A:Around) (E:Value→Shared→Prop) (s:Shared) (env:Env) (h₀:Heap) (L:Addr) (elt iter c:PySem.Expr) (b:Str) (pa pb tp:Pos) (kk:Nat) (scope:Scope) (cl:List (Prod Str Addr)) (pos:Pos) (m:Str→Option Value) (news:Led) (Q:Value→Shared→Prop) (I:Addr) (fp wr:List Addr) (n:Nat) (P Md:Nat→Value→Heap→Prop) (xy:Nat→Value→Value→Prop) (J:Nat→List Value→Prop) (a:Str) (St:Nat→Heap→Prop) : Prop:=∀ (W:KTurns prog w A (.Tuple [.Name a pa,.Name b pb] kk tp) I fp wr n P Md St) (hh:A.handled=none) (hP:∀ i v h,P i v h→∃ T x y,v=.ref T∧xy i x y∧h.IsTuple T #[x,y]) (hself:∀ (s':Shared) (E':Value→Shared→Prop) (Q':Value→Shared→Prop),St 0 s'.heap→Q' (.ref I) s'→wpAny (model prog w) A (pyIter (.ref I)) Q' E' s') (hLf:L ∉ fp) (hfp:∀ b∈fp,@LT.lt Nat _ b s.heap.objs.size) (hfp0:∀ b∈fp,h₀.get? b=none) (hnw:∀ p∈news,p.1 ∉ wr) (hst:St 0 s.heap) (hz:n≤sizeLine) (F:Fr h₀ L s.heap m) (N:News h₀ L s.heap news) (hcell:∀ y∈scope.names,y.2≠.cell) (hkind:scope.kind=.function) (hxa:scope.names.lookup a=some .local) (hxb:scope.names.lookup b=some .local) (hab : ¬ a=b) (J0:J 0 []) (step:∀ i x y zs C oC D m₂ h tk,xy i x y→J i zs→NsObj oC m₂→m₂ a=some x→m₂ b=some y→Fr h₀ L h m→News h₀ L h ((C,oC)::(D,lst zs)::news)→(∀ p∈news,@Ne Nat p.1 C) →
      ∀ (P1:Value→Shared→Prop) (P2:Shared→Prop) (E':Value→Shared→Prop),(∀ v tk,J (i+1) (zs++[v])→P1 v { s with heap:=h,toks:=tk })→(∀ tk,J (i+1) zs→P2 { s with heap:=h,toks:=tk }) →
      wpAny (model prog w) A (isTrue c (compEnvC scope cl C env) (eval c (compEnvC scope cl C env))) (fun ok s₃=>if ok=true then wpAny (model prog w) A (eval elt (compEnvC scope cl C env)) P1 E' s₃ else P2 s₃) E' { s with heap:=h,toks:=tk }) (done:∀ D zs h tk,J n zs→Fr h₀ L h m→News h₀ L h ((D,lst zs)::news)→Q (.ref D) { s with heap:=h,toks:=tk }),wpAny (model prog w) A (newList []) (fun acc s₃=>wpAny (model prog w) A (newFunctionEnv scope env.globals cl [] env.qual none .none (some env)) (fun cenv s₄ =>
      codeAny (model prog w) A (.compStart (.ListComp elt [⟨.Tuple [.Name a pa,.Name b pb] kk tp,iter,[c],0⟩] scope pos) 0 (.ref I) acc { cenv with scope:=relabel scope env }) (compPost (model prog w) A E none Q acc cenv.locals) s₄) E s₃) E s
end
section
open PyProof.V PyProof.Rows.LCg
noncomputable def P_zipC (prog:Program) (w:World) (A:Around) (E:Value→Shared→Prop) (s:Shared) (env:Env) (h₀:Heap) (L:Addr) (elt iter c:PySem.Expr) (b:Str) (pa pb tp:Pos) (kk:Nat) (scope:Scope) (cl:List (Prod Str Addr)) (pos:Pos) (l1 l2:Addr) (n1 n2:Nat) (xs ys:List Value) (m:Str→Option Value) (news:Led) (Q:Value→Shared→Prop) (J:Nat→List Value→Prop) (a:Str) : Prop:=∀ (hh:A.handled=none) (F:Fr h₀ L s.heap m) (N:News h₀ L s.heap news) (h1:(l1,listOf xs.toArray n1)∈news) (h2:(l2,listOf ys.toArray n2)∈news) (hlen:xs.length=ys.length) (hz:xs.length≤sizeLine) (hcell:∀ y∈scope.names,y.2≠.cell) (hkind:scope.kind=.function) (hxa:scope.names.lookup a=some .local) (hxb:scope.names.lookup b=some .local) (hab : ¬ a=b) (J0:J 0 []) (step:∀ i x y zs C oC D m₂ h tk,(xs[i]?=some x∧ys[i]?=some y)→J i zs→NsObj oC m₂→m₂ a=some x→m₂ b=some y→Fr h₀ L h m→News h₀ L h ((C,oC)::(D,lst zs)::news)→(∀ p∈news,@Ne Nat p.1 C) →
      ∀ (P1:Value→Shared→Prop) (P2:Shared→Prop) (E':Value→Shared→Prop),(∀ v tk,J (i+1) (zs++[v])→P1 v { s with heap:=h,toks:=tk })→(∀ tk,J (i+1) zs→P2 { s with heap:=h,toks:=tk }) →
      wpAny (model prog w) A (isTrue c (compEnvC scope cl C env) (eval c (compEnvC scope cl C env))) (fun ok s₃=>if ok=true then wpAny (model prog w) A (eval elt (compEnvC scope cl C env)) P1 E' s₃ else P2 s₃) E' { s with heap:=h,toks:=tk }) (done:∀ D zs h tk,J xs.length zs→Fr h₀ L h m→News h₀ L h ((D,lst zs)::news)→Q (.ref D) { s with heap:=h,toks:=tk }),wpAny (model prog w) A (call (.type "zip") [.ref l1,.ref l2]) (fun xv s₁=>wpAny (model prog w) A (pyIter xv) (fun it s₂=>wpAny (model prog w) A (newList []) (fun acc s₃ =>
      wpAny (model prog w) A (newFunctionEnv scope env.globals cl [] env.qual none .none (some env)) (fun cenv s₄ =>
        codeAny (model prog w) A (.compStart (.ListComp elt [⟨.Tuple [.Name a pa,.Name b pb] kk tp,iter,[c],0⟩] scope pos) 0 it acc { cenv with scope:=relabel scope env }) (compPost (model prog w) A E none Q acc cenv.locals) s₄) E s₃) E s₂) E s₁) E s
end
section
noncomputable def P_ids_take (p:Int→Bool) (i':Int) (k:Nat) : Prop:=∀ (hi:i'∈ids) (e:(k:Int)=i'),(ids.take (k+1)).filter p=(ids.take k).filter p++(if p i'=true then [i'] else [])
end
section
noncomputable def P_is_so (w:World) (A:Ad) (σ:Sg) (bl sp ow hl:Addr) (x:Int→Addr) (u u':Int→Tok) (nb ns no nh:Nat) (s0 s1:Tok) (S Tl:Led) (p:Program) (loose:List Str) (mean:ExcName→Option Value) (mg mb:Str→Option Value) (dp un:Nat) (gd:Option (List Code)) (cn:Str) (cs:Scope) (a:Addr) (ccd:Value) (cl:List (Prod Str Addr)) (outer:List Env) (A₀:Around) (base h₀:Heap) (L:Addr) (m:Str→Option Value) (s:Shared) (Q E:Value→Shared→Prop) (rest:Led) : Prop:=∀ (ok:A.Ok) (hgood:∀ i∈ids,σ.home i=-1∨σ.home i∈sides) (hS:St w A σ S) (hT:TabL 529 (ofString "_law_is_so.<locals>.<lambda>") Tl) (B:Below A₀ base outer h₀) (F:Fr h₀ L s.heap m) (X:(Mine.hd.heap_1 w.params).In h₀) (N:News h₀ L s.heap (([(bl,listOf #[.ref (A.b 0),.ref (A.b 1)] nb),(sp,listOf #[.int (σ.point 0) s0,.int (σ.point 1) s1] ns),(ow,listOf #[.ref (A.ma 0),.ref (A.ma 1),.ref (A.ma 2),.ref (A.ma 3)] no),(hl,listOf #[.ref (x 0),.ref (x 1),.ref (x 2),.ref (x 3)] nh),(x 0,tupO (σ.home 0) (σ.pos 0) (u 0) (u' 0)),(x 1,tupO (σ.home 1) (σ.pos 1) (u 1) (u' 1)),(x 2,tupO (σ.home 2) (σ.pos 2) (u 2) (u' 2)),(x 3,tupO (σ.home 3) (σ.pos 3) (u 3) (u' 3))]++(S++Tl))++rest)) (Tp:Top p loose mean mg mb h₀) (XB:(Mine.hd.heap_1 w.params).In base) (TB:Top p loose mean mg mb base) (D:KtsDicts (outer.filterMap (·.frame)) h₀) (hCd:CodeHd base 531 529) (hr:∀ q∈[(bl,listOf #[.ref (A.b 0),.ref (A.b 1)] nb),(sp,listOf #[.int (σ.point 0) s0,.int (σ.point 1) s1] ns),(ow,listOf #[.ref (A.ma 0),.ref (A.ma 1),.ref (A.ma 2),.ref (A.ma 3)] no),(hl,listOf #[.ref (x 0),.ref (x 1),.ref (x 2),.ref (x 3)] nh),(x 0,tupO (σ.home 0) (σ.pos 0) (u 0) (u' 0)),(x 1,tupO (σ.home 1) (σ.pos 1) (u 1) (u' 1)),(x 2,tupO (σ.home 2) (σ.pos 2) (u 2) (u' 2)),(x 3,tupO (σ.home 3) (σ.pos 3) (u 3) (u' 3))]++(S++rest),@Ne Nat q.1 529) (hk:cs.kind=.function) (hd:dp+12<recursionLimit) (hu:un+8 * 12<cLine) (ret:∀ Tl' h₀' h' tk',TabL 529 (ofString "_law_is_so.<locals>.<lambda>") Tl'→(∀ q∈Tl',q.1∈Tl.map (·.1)∨∀ p∈([(bl,listOf #[.ref (A.b 0),.ref (A.b 1)] nb),(sp,listOf #[.int (σ.point 0) s0,.int (σ.point 1) s1] ns),(ow,listOf #[.ref (A.ma 0),.ref (A.ma 1),.ref (A.ma 2),.ref (A.ma 3)] no),(hl,listOf #[.ref (x 0),.ref (x 1),.ref (x 2),.ref (x 3)] nh),(x 0,tupO (σ.home 0) (σ.pos 0) (u 0) (u' 0)),(x 1,tupO (σ.home 1) (σ.pos 1) (u 1) (u' 1)),(x 2,tupO (σ.home 2) (σ.pos 2) (u 2) (u' 2)),(x 3,tupO (σ.home 3) (σ.pos 3) (u 3) (u' 3))]++(S++Tl))++rest,@LT.lt Nat _ p.1 q.1)→KtsTurn (outer.filterMap (·.frame)) h₀ h₀'→Fr h₀' L h' m→News h₀' L h' (([(bl,listOf #[.ref (A.b 0),.ref (A.b 1)] nb),(sp,listOf #[.int (σ.point 0) s0,.int (σ.point 1) s1] ns),(ow,listOf #[.ref (A.ma 0),.ref (A.ma 1),.ref (A.ma 2),.ref (A.ma 3)] no),(hl,listOf #[.ref (x 0),.ref (x 1),.ref (x 2),.ref (x 3)] nh),(x 0,tupO (σ.home 0) (σ.pos 0) (u 0) (u' 0)),(x 1,tupO (σ.home 1) (σ.pos 1) (u 1) (u' 1)),(x 2,tupO (σ.home 2) (σ.pos 2) (u 2) (u' 2)),(x 3,tupO (σ.home 3) (σ.pos 3) (u 3) (u' 3))]++(S++Tl'))++rest)→Below A₀ base outer h₀'→(Mine.hd.heap_1 w.params).In h₀'→Top p loose mean mg mb h₀'→KtsDicts (outer.filterMap (·.frame)) h₀'→Q (.bool true) { s with heap:=h',toks:=tk' }),wpAny (model PySem.Challenge.rw_ok0063_01.prog w) (ktrTop dp un gd cn cs L a ccd cl outer) (call (.ref 532) [.ref bl,.ref sp,.ref ow,.ref hl]) Q E s
end
section
noncomputable def P_law_led (Kf:KS1) (w:World) (p0 e0:Int) (t1 t2 t3 t4:Tok) (s0 n0:Int) : Prop:=Kf w 539 [.int p0 t1,.int s0 t2,.int e0 t3,.int n0 t4] 2 [] [] fun v led=>(∃ t,v=.int (led1 p0 s0 e0 n0) t)∧led=[]
end
section
noncomputable def P_law_draw (Kf:KS1) (w:World) (dl:Addr) (vs:List Value) (c:Nat) (many:Int) (t1:Tok) (ns:List Int) : Prop:=∀ (hi:IntsAre vs ns) (hz:ns.length≤20) (hm:1≤many) (hm2:many≤100000),Kf w 520 [.ref dl,.int many t1] 12 [(dl,listOf vs.toArray c)] [dl] fun v led=>(∃ r t,v=.int r t∧0≤r∧r<many)∧∃ vs' ns' c',led=[(dl,listOf (List.toArray vs') c')]∧IntsAre vs' ns'∧ns'.length≤ns.length
end
section
noncomputable def P_make_buffer (w:World) (i:Int) (t0:Tok) (nm:Str) (t1:Tok) (p:Program) (loose:List Str) (mean:ExcName→Option Value) (mg mb:Str→Option Value) (dp un:Nat) (gd:Option (List Code)) (cn:Str) (cs:Scope) (a:Addr) (ccd:Value) (cl:List (Prod Str Addr)) (outer:List Env) (A₀:Around) (base h₀:Heap) (L:Addr) (m:Str→Option Value) (rest:List (Prod Addr Obj)) (s:Shared) (Q E:Value→Shared→Prop) : Prop:=Below A₀ base outer h₀→Fr h₀ L s.heap m→(Mine.hd.heap_1 w.params).In h₀→News h₀ L s.heap rest→Top p loose mean mg mb h₀→cs.kind=.function→dp+12<recursionLimit→un+8 * 12<cLine →
    (∀ (b bd t td c k kd r ls:Addr) (T0 T1 T2 T3 T4 T5 T6 T7 T8 T9 T10 T11 T12 T13 T14 T15 T16 T17 T18 T19:Tok) (vn vm ct st:Value) (tp tb tz u1 g1 g2 g3 g4 g5 g6 g7 tr:Tok) (n:Nat) (its:Array Value) (o:Obj) (h':Heap) (tk':Nat),News h₀ L h' ([(ls,listOf #[] 0),(k,instObj 322 kd),(kd,rowsD w tr r),(r,o),(t,instObj 177 td),(td,gapD w g1 g2 g3 g4 (.int 8 g5) c (.int 0 g6) (.int 8 g7)),(c,listOf its n),(b,instObj 428 bd),(bd,bufD w (tok20 [T0,T1,T2,T3,T4,T5,T6,T7,T8,T9,T10,T11,T12,T13,T14,T15,T16,T17,T18,T19]) vn vm t k (.int 1 tp) (.int 1 tb) (.int 1 tz) .none (.int 1 u1) ct st ls)]++rest)→Fr h₀ L h' m→(∀ p∈rest,p.1<bd) →
      ((@LT.lt Nat _ bd b)∧(@LT.lt Nat _ b td)∧(@LT.lt Nat _ td t)∧(@LT.lt Nat _ t c)∧(@LT.lt Nat _ c kd)∧(@LT.lt Nat _ kd k)∧(@LT.lt Nat _ k r)∧(@LT.lt Nat _ r ls))→its.size=8→IsRows w o []→(r == sysModules)=false→Q (.ref b) { s with heap:=h',toks:=tk' }) →
    wpAny (model PySem.Challenge.rw_ok0063_01.prog w) (ktrTop dp un gd cn cs L a ccd cl outer) (call (.ref 428) [.int i t0,.str nm t1]) Q E s
end
section
open PyProof.V PyProof.Rows.LCg
noncomputable def P_rangeX (prog:Program) (w:World) (E:Value→Shared→Prop) (s:Shared) (env:Env) (h₀:Heap) (body:List PySem.Stmt) (pos:Pos) (n:Nat) (t:Tok) (m:Str→Option Value) (news:Led) (C:Heap→Prop) (A:Around) (Q:Flow→Shared→Prop) (x:Str) : Prop:=∀ (hh:A.handled=none) (hC:C h₀) (hCn:∀ h,C h→∀ b,h₀.get? b=none→h.get? b=none) (F:Fr h₀ env.locals s.heap m) (N:News h₀ env.locals s.heap news) (hn:n≤1000) (rest:∀ I:Nat,(∀ p∈news,p.1<I)→∃ J:Nat→(Str→Option Value)→Led→Prop,J 0 m news ∧
      (∀ i t,i<n→StepV w prog A E C env (.Name x pos) body s I J i (.int (i:Int) t)) ∧
      ∀ h₀' h' tk m' news',C h₀'→Fr h₀' env.locals h' m'→News h₀' env.locals h' news'→J n m' news'→Q .next { s with heap:=h',toks:=tk }),wpAny (model prog w) A (call (.type "range") [.int (n:Int) t]) (fun xv s₁=>wpAny (model prog w) A (pyIter xv) (fun it s₂=>LoopsX prog w A env (.Name x pos) body Q E it s₂) E s₁) E s
end
section
open PyProof.V PyProof.Rows.LCg
noncomputable def P_listX (prog:Program) (w:World) (E:Value→Shared→Prop) (s:Shared) (env:Env) (h₀:Heap) (body:List PySem.Stmt) (pos:Pos) (l:Addr) (nl:Nat) (xs:List Value) (m:Str→Option Value) (news:Led) (C:Heap→Prop) (A:Around) (Q:Flow→Shared→Prop) (x:Str) : Prop:=∀ (hh:A.handled=none) (hC:C h₀) (hCn:∀ h,C h→∀ b,h₀.get? b=none→h.get? b=none) (F:Fr h₀ env.locals s.heap m) (N:News h₀ env.locals s.heap news) (hl:(l,listOf xs.toArray nl)∈news) (rest:∀ I:Nat,(∀ p∈news,p.1<I)→∃ J:Nat→(Str→Option Value)→Led→Prop,J 0 m news ∧
      (∀ i v,xs[i]?=some v→StepV w prog A E (fun h=>C h) env (.Name x pos) body s I (fun i m n=>J i m n∧(l,listOf xs.toArray nl)∈n) i v) ∧
      ∀ h₀' h' tk m' news',C h₀'→Fr h₀' env.locals h' m'→News h₀' env.locals h' news'→J xs.length m' news'→Q .next { s with heap:=h',toks:=tk }),wpAny (model prog w) A (pyIter (.ref l)) (fun it s₂=>LoopsX prog w A env (.Name x pos) body Q E it s₂) E s
end
section
open PyProof.V PyProof.Rows.LCg
noncomputable def P_LI_ne_c7 (w:World) (L I:Nat) (A:Ad) (σ:Sg) (dl bl ow sp hl:Addr) (x:Int→Addr) (S T1 T2:Led) (dv:List Value) (dn:List Int) : Prop:=∀ (II:LI w L I A σ dl bl ow sp hl x S T1 T2 dv dn),@Ne Nat I (L+1+1+1+1+1+1+1)∧@Ne Nat (L+1+1+1+1+1+1+1+1) (L+1+1+1+1+1+1+1)∧@Ne Nat (L+1+1+1+1+1+1) (L+1+1+1+1+1+1+1)∧@Ne Nat (L+1+1+1+1+1) (L+1+1+1+1+1+1+1)∧@Ne Nat (L+1+1+1+1) (L+1+1+1+1+1+1+1)∧@Ne Nat (L+1+1+1) (L+1+1+1+1+1+1+1)∧@Ne Nat (L+1+1) (L+1+1+1+1+1+1+1)∧@Ne Nat (L+1) (L+1+1+1+1+1+1+1)∧@Ne Nat dl (L+1+1+1+1+1+1+1)∧@Ne Nat bl (L+1+1+1+1+1+1+1)∧@Ne Nat ow (L+1+1+1+1+1+1+1)∧@Ne Nat sp (L+1+1+1+1+1+1+1)∧@Ne Nat hl (L+1+1+1+1+1+1+1)∧@Ne Nat (x 0) (L+1+1+1+1+1+1+1)∧@Ne Nat (x 1) (L+1+1+1+1+1+1+1)∧@Ne Nat (x 2) (L+1+1+1+1+1+1+1)∧@Ne Nat (x 3) (L+1+1+1+1+1+1+1)
end
section
open PyProof.V PyProof.Rows.LCg
noncomputable def P_LI_row (w:World) (L I:Nat) (A:Ad) (σ σ':Sg) (dl bl ow sp hl:Addr) (x:Int→Addr) (S S' T1 T2:Led) (dv dv':List Value) (dn dn':List Int) (i:Int) (T:Addr) : Prop:=∀ (II:LI w L I A σ dl bl ow sp hl x S T1 T2 dv dn) (hS:St w A σ' S') (di:IntsAre dv' dn') (dz:dn'.length≤20) (l1 : @LT.lt Nat _ I T∧@LT.lt Nat _ (L+1+1+1+1+1+1+1+1) T∧@LT.lt Nat _ (L+1+1+1+1+1+1+1) T∧@LT.lt Nat _ (L+1+1+1+1+1+1) T∧@LT.lt Nat _ (L+1+1+1+1+1) T∧@LT.lt Nat _ (L+1+1+1+1) T∧@LT.lt Nat _ (L+1+1+1) T∧@LT.lt Nat _ (L+1+1) T∧@LT.lt Nat _ (L+1) T∧@LT.lt Nat _ dl T∧@LT.lt Nat _ bl T∧@LT.lt Nat _ ow T∧@LT.lt Nat _ sp T∧@LT.lt Nat _ hl T∧@LT.lt Nat _ (x 0) T∧@LT.lt Nat _ (x 1) T∧@LT.lt Nat _ (x 2) T∧@LT.lt Nat _ (x 3) T∧AllLt T (S'++(T1++T2))) (good:∀ i∈ids,(σ'.home i=-1∧σ'.pos i=0)∨(σ'.home i∈sides∧1≤σ'.pos i∧σ'.pos i≤σ'.size (σ'.home i)+1)) (pts:∀ j∈sides,0≤σ'.size j∧σ'.size j≤σ'.lim∧1≤σ'.point j∧σ'.point j≤σ'.size j+1),LI w L I A σ' dl bl ow sp hl (updA x i T) S' T1 T2 dv' dn'
end
section
open PyProof.V PyProof.Rows.LCg
noncomputable def P_lap_row (w:World) (L I:Nat) (oI:Obj) (A:Ad) (σ σ':Sg) (dl bl ow sp hl:Addr) (x:Int→Addr) (u u':Int→Tok) (S S' T1 T2:Led) (dv dv':List Value) (dn dn':List Int) (nd nb no ns nh:Nat) (s0 s1:Tok) (o1 o2 o3 o4 o5 o6 o7 o8:Obj) (lim:Nat) (h₀ h':Heap) (m':Str→Option Value) (i hn pn:Int) (T:Addr) (b b':Tok) : Prop:=∀ (II:LI w L I A σ dl bl ow sp hl x S T1 T2 dv dn) (hS:St w A σ' S') (di:IntsAre dv' dn') (dz:dn'.length≤20) (N:News h₀ L h' ((T,tupO hn pn b b')::(I,oI)::(L+1+1+1+1+1+1+1+1,o8)::(L+1+1+1+1+1+1+1,o7)::(L+1+1+1+1+1+1,o6)::(L+1+1+1+1+1,o5)::(L+1+1+1+1,o4)::(L+1+1+1,o3)::(L+1+1,o2)::(L+1,o1)::(dl,listOf (List.toArray dv') nd)::(bl,listOf #[.ref (A.b 0),.ref (A.b 1)] nb)::(ow,listOf #[.ref (A.ma 0),.ref (A.ma 1),.ref (A.ma 2),.ref (A.ma 3)] no)::(sp,listOf #[.int (σ.point 0) s0,.int (σ.point 1) s1] ns)::(hl,listOf #[.ref (updA x i T 0),.ref (updA x i T 1),.ref (updA x i T 2),.ref (updA x i T 3)] nh)::(x 0,tupO (σ.home 0) (σ.pos 0) (u 0) (u' 0))::(x 1,tupO (σ.home 1) (σ.pos 1) (u 1) (u' 1))::(x 2,tupO (σ.home 2) (σ.pos 2) (u 2) (u' 2))::(x 3,tupO (σ.home 3) (σ.pos 3) (u 3) (u' 3))::(S'++(T1++T2)))) (x9:Fr h₀ L h' m') (l1 : @LT.lt Nat _ I T∧@LT.lt Nat _ (L+1+1+1+1+1+1+1+1) T∧@LT.lt Nat _ (L+1+1+1+1+1+1+1) T∧@LT.lt Nat _ (L+1+1+1+1+1+1) T∧@LT.lt Nat _ (L+1+1+1+1+1) T∧@LT.lt Nat _ (L+1+1+1+1) T∧@LT.lt Nat _ (L+1+1+1) T∧@LT.lt Nat _ (L+1+1) T∧@LT.lt Nat _ (L+1) T∧@LT.lt Nat _ dl T∧@LT.lt Nat _ bl T∧@LT.lt Nat _ ow T∧@LT.lt Nat _ sp T∧@LT.lt Nat _ hl T∧@LT.lt Nat _ (x 0) T∧@LT.lt Nat _ (x 1) T∧@LT.lt Nat _ (x 2) T∧@LT.lt Nat _ (x 3) T∧AllLt T (S'++(T1++T2))) (eh:σ'.home=upd σ.home i hn) (ep:σ'.pos=upd σ.pos i pn) (et:σ'.point=σ.point) (hlim:σ'.lim≤lim) (good:∀ i∈ids,(σ'.home i=-1∧σ'.pos i=0)∨(σ'.home i∈sides∧1≤σ'.pos i∧σ'.pos i≤σ'.size (σ'.home i)+1)) (pts:∀ j∈sides,0≤σ'.size j∧σ'.size j≤σ'.lim∧1≤σ'.point j∧σ'.point j≤σ'.size j+1) (h1:m' (ofString "deck")=some (.ref dl)) (h2:m' (ofString "homes")=some (.ref hl)) (h3:m' (ofString "spots")=some (.ref sp)) (cs:(Cells6 o1 o2 o3 o4 o5 o7)) (c6:o6.data=.cell (some (.ref bl))) (c8:o8.data=.cell (some (.ref ow))),∃ news',News h₀ L h' ((I,oI)::news')∧LapJ w L I oI A dl bl ow sp lim m' news'
end
section
noncomputable def P_way_2 (w:World) (dp un:Nat) (gd:Option (List Code)) (a:Addr) (A₀:Around) (base:Heap) (p:Program) (loose:List Str) (mean:ExcName→Option Value) (mg mb:Str→Option Value) (L I:Nat) (oI:Obj) (A:Ad) (s:Shared) (R:Result→Shared→Prop) (P:Flow→Shared→Prop) (dl bl ow sp:Addr) (h₀:Heap) (σ:Sg) (hl:Addr) (x:Int→Addr) (u u':Int→Tok) (S T1 T2:Led) (dv:List Value) (dn:List Int) (nd nb no ns nh:Nat) (s0 s1:Tok) (r:Str→Option Value) (o1 o2 o3 o4 o5 o6 o7 o8:Obj) (v3 v4 v5:Option Value) (at_ side:Int) (ta tb ts:Tok) (body:List PySem.Stmt) (cs:Scope) : Prop:=∀ (hb:wayD 1=some body) (XB:(Mine.hd.heap_1 w.params).In base) (TB:Top p loose mean mg mb base) (C1:CodeHd base 531 529) (C2:CodeHd base 543 541) (hc:lawD.map (·.1)=some cs) (hd:dp+40<recursionLimit) (hu:un+8 * 40<cLine) (G:LG w p loose mean mg mb A₀ base h₀) (II:LI w L I A σ dl bl ow sp hl x S T1 T2 dv dn) (hlim:σ.lim≤700) (ha:at_∈ids) (hs:side∈sides) (F:Fr h₀ L s.heap (fun y=>if y=ofString "size" then some (.int (σ.size side) ts) else (if y=ofString "deck" then some (.ref dl) else if y=ofString "homes" then some (.ref hl) else if y=ofString "spots" then some (.ref sp) else r y))) (N:News h₀ L s.heap ((I,oI)::(L+1+1+1+1+1+1+1+1,o8)::(L+1+1+1+1+1+1+1,o7)::(L+1+1+1+1+1+1,o6)::(L+1+1+1+1+1,o5)::(L+1+1+1+1,o4)::(L+1+1+1,o3)::(L+1+1,o2)::(L+1,o1)::(dl,listOf (List.toArray dv) nd)::(bl,listOf #[.ref (A.b 0),.ref (A.b 1)] nb)::(ow,listOf #[.ref (A.ma 0),.ref (A.ma 1),.ref (A.ma 2),.ref (A.ma 3)] no)::(sp,listOf #[.int (σ.point 0) s0,.int (σ.point 1) s1] ns)::(hl,listOf #[.ref (x 0),.ref (x 1),.ref (x 2),.ref (x 3)] nh)::(x 0,tupO (σ.home 0) (σ.pos 0) (u 0) (u' 0))::(x 1,tupO (σ.home 1) (σ.pos 1) (u 1) (u' 1))::(x 2,tupO (σ.home 2) (σ.pos 2) (u 2) (u' 2))::(x 3,tupO (σ.home 3) (σ.pos 3) (u 3) (u' 3))::(S++(T1++T2)))) (c1:o1.data=.cell (some (.int at_ ta))) (c2:o2.data=.cell (some (.int side tb))) (c3:o3.data=.cell v3) (c4:o4.data=.cell v4) (c5:o5.data=.cell v5) (c6:o6.data=.cell (some (.ref bl))) (c7:o7.data=.cell (some (.ref (A.b side)))) (c8:o8.data=.cell (some (.ref ow))) (next:∀ h₀' h' tk' m' news',LG w p loose mean mg mb A₀ base h₀'→Fr h₀' L h' m'→News h₀' L h' ((I,oI)::news')→LapJ w L I oI A dl bl ow sp (σ.lim+18) m' news'→P .next { s with heap:=h',toks:=tk' }),wpAny (model PySem.Challenge.rw_ok0063_01.prog w) ((lawA dp un gd).deeper (envOfC (ofString "law") cs L a (.ref 543))) (execs body (envOfC (ofString "law") cs L a (.ref 543))) P (fun e s'=>wpAny (model PySem.Challenge.rw_ok0063_01.prog w) ((lawA dp un gd).deeper (envOfC (ofString "law") cs L a (.ref 543))) (leaving (envOfC (ofString "law") cs L a (.ref 543)) e) (fun _ s''=>R (.error e) s'') (fun e' s''=>R (.error e') s'') s') s
end
section
noncomputable def P_st_setmark (w:World) (A:Ad) (σ:Sg) (dp un:Nat) (gd:Option (List Code)) (cn:Str) (cs:Scope) (a:Addr) (ccd:Value) (cl:List (Prod Str Addr)) (outer:List Env) (A₀:Around) (base h₀:Heap) (p:Program) (loose:List Str) (mean:ExcName→Option Value) (mg mb:Str→Option Value) (L:Addr) (m:Str→Option Value) (s:Shared) (E:Value→Shared→Prop) (rest S:Led) (Q:Unit→Shared→Prop) : Prop:=∀ (ok:A.Ok) (hS:St w A σ S) (B:Below A₀ base outer h₀) (F:Fr h₀ L s.heap m) (X:(Mine.hd.heap_1 w.params).In h₀) (Tp:Top p loose mean mg mb h₀) (N:News h₀ L s.heap (S++rest)) (hr:Off A.all rest) (h:∀ S' h' tk',St w A { σ with marked:=true } S'→Fr h₀ L h' m→News h₀ L h' (S'++rest)→Q () { s with heap:=h',toks:=tk' }),wpAny (model PySem.Challenge.rw_ok0063_01.prog w) (ktrTop dp un gd cn cs L a ccd cl outer) (setAttr (.ref (A.b 0)) (ofString "mark") (.ref (A.ma 3))) Q E s
end
section
open PyProof.V PyProof.Rows.LCg
noncomputable def P_lap_rowD (w:World) (L I:Nat) (oI:Obj) (A:Ad) (σ σ':Sg) (dl bl ow sp hl:Addr) (x:Int→Addr) (u u':Int→Tok) (S S' T1 T2:Led) (dv dv':List Value) (dn dn':List Int) (nd nb no ns nh:Nat) (s0 s1:Tok) (o1 o2 o3 o4 o5 o6 o7 o8:Obj) (lim:Nat) (h₀ h':Heap) (m':Str→Option Value) (i hn pn:Int) (T:Addr) (b b':Tok) : Prop:=∀ (II:LI w L I A σ dl bl ow sp hl x S T1 T2 dv dn) (hS:St w A σ' S') (di:IntsAre dv' dn') (dz:dn'.length≤20) (N:News h₀ L h' ((T,tupO hn pn b b')::(dl,listOf (List.toArray dv') nd)::(I,oI)::(L+1+1+1+1+1+1+1+1,o8)::(L+1+1+1+1+1+1+1,o7)::(L+1+1+1+1+1+1,o6)::(L+1+1+1+1+1,o5)::(L+1+1+1+1,o4)::(L+1+1+1,o3)::(L+1+1,o2)::(L+1,o1)::(bl,listOf #[.ref (A.b 0),.ref (A.b 1)] nb)::(ow,listOf #[.ref (A.ma 0),.ref (A.ma 1),.ref (A.ma 2),.ref (A.ma 3)] no)::(sp,listOf #[.int (σ.point 0) s0,.int (σ.point 1) s1] ns)::(hl,listOf #[.ref (updA x i T 0),.ref (updA x i T 1),.ref (updA x i T 2),.ref (updA x i T 3)] nh)::(x 0,tupO (σ.home 0) (σ.pos 0) (u 0) (u' 0))::(x 1,tupO (σ.home 1) (σ.pos 1) (u 1) (u' 1))::(x 2,tupO (σ.home 2) (σ.pos 2) (u 2) (u' 2))::(x 3,tupO (σ.home 3) (σ.pos 3) (u 3) (u' 3))::(S'++(T1++T2)))) (F:Fr h₀ L h' m') (l1 : @LT.lt Nat _ dl T∧@LT.lt Nat _ I T∧@LT.lt Nat _ (L+1+1+1+1+1+1+1+1) T∧@LT.lt Nat _ (L+1+1+1+1+1+1+1) T∧@LT.lt Nat _ (L+1+1+1+1+1+1) T∧@LT.lt Nat _ (L+1+1+1+1+1) T∧@LT.lt Nat _ (L+1+1+1+1) T∧@LT.lt Nat _ (L+1+1+1) T∧@LT.lt Nat _ (L+1+1) T∧@LT.lt Nat _ (L+1) T∧@LT.lt Nat _ bl T∧@LT.lt Nat _ ow T∧@LT.lt Nat _ sp T∧@LT.lt Nat _ hl T∧@LT.lt Nat _ (x 0) T∧@LT.lt Nat _ (x 1) T∧@LT.lt Nat _ (x 2) T∧@LT.lt Nat _ (x 3) T∧AllLt T (S'++(T1++T2))) (eh:σ'.home=upd σ.home i hn) (ep:σ'.pos=upd σ.pos i pn) (et:σ'.point=σ.point) (hlim:σ'.lim≤lim) (good:∀ i∈ids,(σ'.home i=-1∧σ'.pos i=0)∨(σ'.home i∈sides∧1≤σ'.pos i∧σ'.pos i≤σ'.size (σ'.home i)+1)) (pts:∀ j∈sides,0≤σ'.size j∧σ'.size j≤σ'.lim∧1≤σ'.point j∧σ'.point j≤σ'.size j+1) (h1:m' (ofString "deck")=some (.ref dl)) (h2:m' (ofString "homes")=some (.ref hl)) (h3:m' (ofString "spots")=some (.ref sp)) (cs:(Cells6 o1 o2 o3 o4 o5 o7)) (c6:o6.data=.cell (some (.ref bl))) (c8:o8.data=.cell (some (.ref ow))),∃ news',News h₀ L h' ((I,oI)::news')∧LapJ w L I oI A dl bl ow sp lim m' news'
end
section
open PyProof.V PyProof.Rows.LCg
noncomputable def P_LI_copy (w:World) (L I:Nat) (A:Ad) (σ σ':Sg) (dl bl ow sp hl:Addr) (x:Int→Addr) (S S' T1 T2:Led) (dv dv':List Value) (dn dn':List Int) (i j:Int) : Prop:=∀ (II:LI w L I A σ dl bl ow sp hl x S T1 T2 dv dn) (hj:j∈ids) (hS:St w A σ' S') (di:IntsAre dv' dn') (dz:dn'.length≤20) (good:∀ i∈ids,(σ'.home i=-1∧σ'.pos i=0)∨(σ'.home i∈sides∧1≤σ'.pos i∧σ'.pos i≤σ'.size (σ'.home i)+1)) (pts:∀ j∈sides,0≤σ'.size j∧σ'.size j≤σ'.lim∧1≤σ'.point j∧σ'.point j≤σ'.size j+1),LI w L I A σ' dl bl ow sp hl (updA x i (x j)) S' T1 T2 dv' dn'
end
section
open PyProof.V PyProof.Rows.LCg
noncomputable def P_lap_copy (w:World) (L I:Nat) (oI:Obj) (A:Ad) (σ σ':Sg) (dl bl ow sp hl:Addr) (x:Int→Addr) (u u':Int→Tok) (S S' T1 T2:Led) (dv dv':List Value) (dn dn':List Int) (nd nb no ns nh:Nat) (s0 s1:Tok) (o1 o2 o3 o4 o5 o6 o7 o8:Obj) (lim:Nat) (h₀ h':Heap) (m':Str→Option Value) (i j:Int) : Prop:=∀ (II:LI w L I A σ dl bl ow sp hl x S T1 T2 dv dn) (hj:j∈ids) (hS:St w A σ' S') (di:IntsAre dv' dn') (dz:dn'.length≤20) (N:News h₀ L h' ((dl,listOf (List.toArray dv') nd)::(I,oI)::(L+1+1+1+1+1+1+1+1,o8)::(L+1+1+1+1+1+1+1,o7)::(L+1+1+1+1+1+1,o6)::(L+1+1+1+1+1,o5)::(L+1+1+1+1,o4)::(L+1+1+1,o3)::(L+1+1,o2)::(L+1,o1)::(bl,listOf #[.ref (A.b 0),.ref (A.b 1)] nb)::(ow,listOf #[.ref (A.ma 0),.ref (A.ma 1),.ref (A.ma 2),.ref (A.ma 3)] no)::(sp,listOf #[.int (σ.point 0) s0,.int (σ.point 1) s1] ns)::(hl,listOf #[.ref (updA x i (x j) 0),.ref (updA x i (x j) 1),.ref (updA x i (x j) 2),.ref (updA x i (x j) 3)] nh)::(x 0,tupO (σ.home 0) (σ.pos 0) (u 0) (u' 0))::(x 1,tupO (σ.home 1) (σ.pos 1) (u 1) (u' 1))::(x 2,tupO (σ.home 2) (σ.pos 2) (u 2) (u' 2))::(x 3,tupO (σ.home 3) (σ.pos 3) (u 3) (u' 3))::(S'++(T1++T2)))) (x9:Fr h₀ L h' m') (eh:σ'.home=upd σ.home i (σ.home j)) (ep:σ'.pos=upd σ.pos i (σ.pos j)) (et:σ'.point=σ.point) (hlim:σ'.lim≤lim) (good:∀ i∈ids,(σ'.home i=-1∧σ'.pos i=0)∨(σ'.home i∈sides∧1≤σ'.pos i∧σ'.pos i≤σ'.size (σ'.home i)+1)) (pts:∀ j∈sides,0≤σ'.size j∧σ'.size j≤σ'.lim∧1≤σ'.point j∧σ'.point j≤σ'.size j+1) (h1:m' (ofString "deck")=some (.ref dl)) (h2:m' (ofString "homes")=some (.ref hl)) (h3:m' (ofString "spots")=some (.ref sp)) (cs:(Cells6 o1 o2 o3 o4 o5 o7)) (c6:o6.data=.cell (some (.ref bl))) (c8:o8.data=.cell (some (.ref ow))),∃ news',News h₀ L h' ((I,oI)::news')∧LapJ w L I oI A dl bl ow sp lim m' news'
end
section
noncomputable def P_way_0 (w:World) (dp un:Nat) (gd:Option (List Code)) (a:Addr) (A₀:Around) (base:Heap) (p:Program) (loose:List Str) (mean:ExcName→Option Value) (mg mb:Str→Option Value) (L I:Nat) (oI:Obj) (A:Ad) (s:Shared) (R:Result→Shared→Prop) (P:Flow→Shared→Prop) (dl bl ow sp:Addr) (h₀:Heap) (σ:Sg) (hl:Addr) (x:Int→Addr) (u u':Int→Tok) (S T1 T2:Led) (dv:List Value) (dn:List Int) (nd nb no ns nh:Nat) (s0 s1:Tok) (r:Str→Option Value) (o1 o2 o3 o4 o5 o6 o7 o8:Obj) (v3 v4 v5:Option Value) (at_ side:Int) (ta tb ts:Tok) (body:List PySem.Stmt) (cs:Scope) : Prop:=∀ (hb:wayD 0=some body) (XB:(Mine.hd.heap_1 w.params).In base) (TB:Top p loose mean mg mb base) (C1:CodeHd base 531 529) (C2:CodeHd base 543 541) (hc:lawD.map (·.1)=some cs) (hd:dp+40<recursionLimit) (hu:un+8 * 40<cLine) (G:LG w p loose mean mg mb A₀ base h₀) (II:LI w L I A σ dl bl ow sp hl x S T1 T2 dv dn) (hlim:σ.lim≤700) (ha:at_∈ids) (hs:side∈sides) (F:Fr h₀ L s.heap (fun y=>if y=ofString "size" then some (.int (σ.size side) ts) else (if y=ofString "deck" then some (.ref dl) else if y=ofString "homes" then some (.ref hl) else if y=ofString "spots" then some (.ref sp) else r y))) (N:News h₀ L s.heap ((I,oI)::(L+1+1+1+1+1+1+1+1,o8)::(L+1+1+1+1+1+1+1,o7)::(L+1+1+1+1+1+1,o6)::(L+1+1+1+1+1,o5)::(L+1+1+1+1,o4)::(L+1+1+1,o3)::(L+1+1,o2)::(L+1,o1)::(dl,listOf (List.toArray dv) nd)::(bl,listOf #[.ref (A.b 0),.ref (A.b 1)] nb)::(ow,listOf #[.ref (A.ma 0),.ref (A.ma 1),.ref (A.ma 2),.ref (A.ma 3)] no)::(sp,listOf #[.int (σ.point 0) s0,.int (σ.point 1) s1] ns)::(hl,listOf #[.ref (x 0),.ref (x 1),.ref (x 2),.ref (x 3)] nh)::(x 0,tupO (σ.home 0) (σ.pos 0) (u 0) (u' 0))::(x 1,tupO (σ.home 1) (σ.pos 1) (u 1) (u' 1))::(x 2,tupO (σ.home 2) (σ.pos 2) (u 2) (u' 2))::(x 3,tupO (σ.home 3) (σ.pos 3) (u 3) (u' 3))::(S++(T1++T2)))) (c1:o1.data=.cell (some (.int at_ ta))) (c2:o2.data=.cell (some (.int side tb))) (c3:o3.data=.cell v3) (c4:o4.data=.cell v4) (c5:o5.data=.cell v5) (c6:o6.data=.cell (some (.ref bl))) (c7:o7.data=.cell (some (.ref (A.b side)))) (c8:o8.data=.cell (some (.ref ow))) (next:∀ h₀' h' tk' m' news',LG w p loose mean mg mb A₀ base h₀'→Fr h₀' L h' m'→News h₀' L h' ((I,oI)::news')→LapJ w L I oI A dl bl ow sp (σ.lim+18) m' news'→P .next { s with heap:=h',toks:=tk' }),wpAny (model PySem.Challenge.rw_ok0063_01.prog w) ((lawA dp un gd).deeper (envOfC (ofString "law") cs L a (.ref 543))) (execs body (envOfC (ofString "law") cs L a (.ref 543))) P (fun e s'=>wpAny (model PySem.Challenge.rw_ok0063_01.prog w) ((lawA dp un gd).deeper (envOfC (ofString "law") cs L a (.ref 543))) (leaving (envOfC (ofString "law") cs L a (.ref 543)) e) (fun _ s''=>R (.error e) s'') (fun e' s''=>R (.error e') s'') s') s
end
section
noncomputable def P_way_3 (w:World) (dp un:Nat) (gd:Option (List Code)) (a:Addr) (A₀:Around) (base:Heap) (p:Program) (loose:List Str) (mean:ExcName→Option Value) (mg mb:Str→Option Value) (L I:Nat) (oI:Obj) (A:Ad) (s:Shared) (R:Result→Shared→Prop) (P:Flow→Shared→Prop) (dl bl ow sp:Addr) (h₀:Heap) (σ:Sg) (hl:Addr) (x:Int→Addr) (u u':Int→Tok) (S T1 T2:Led) (dv:List Value) (dn:List Int) (nd nb no ns nh:Nat) (s0 s1:Tok) (r:Str→Option Value) (o1 o2 o3 o4 o5 o6 o7 o8:Obj) (v3 v4 v5:Option Value) (at_ side:Int) (ta tb ts:Tok) (body:List PySem.Stmt) (cs:Scope) : Prop:=∀ (hb:wayD 2=some body) (XB:(Mine.hd.heap_1 w.params).In base) (TB:Top p loose mean mg mb base) (C1:CodeHd base 531 529) (C2:CodeHd base 543 541) (hc:lawD.map (·.1)=some cs) (hd:dp+40<recursionLimit) (hu:un+8 * 40<cLine) (G:LG w p loose mean mg mb A₀ base h₀) (II:LI w L I A σ dl bl ow sp hl x S T1 T2 dv dn) (hlim:σ.lim≤700) (ha:at_∈ids) (hs:side∈sides) (F:Fr h₀ L s.heap (fun y=>if y=ofString "size" then some (.int (σ.size side) ts) else (if y=ofString "deck" then some (.ref dl) else if y=ofString "homes" then some (.ref hl) else if y=ofString "spots" then some (.ref sp) else r y))) (N:News h₀ L s.heap ((I,oI)::(L+1+1+1+1+1+1+1+1,o8)::(L+1+1+1+1+1+1+1,o7)::(L+1+1+1+1+1+1,o6)::(L+1+1+1+1+1,o5)::(L+1+1+1+1,o4)::(L+1+1+1,o3)::(L+1+1,o2)::(L+1,o1)::(dl,listOf (List.toArray dv) nd)::(bl,listOf #[.ref (A.b 0),.ref (A.b 1)] nb)::(ow,listOf #[.ref (A.ma 0),.ref (A.ma 1),.ref (A.ma 2),.ref (A.ma 3)] no)::(sp,listOf #[.int (σ.point 0) s0,.int (σ.point 1) s1] ns)::(hl,listOf #[.ref (x 0),.ref (x 1),.ref (x 2),.ref (x 3)] nh)::(x 0,tupO (σ.home 0) (σ.pos 0) (u 0) (u' 0))::(x 1,tupO (σ.home 1) (σ.pos 1) (u 1) (u' 1))::(x 2,tupO (σ.home 2) (σ.pos 2) (u 2) (u' 2))::(x 3,tupO (σ.home 3) (σ.pos 3) (u 3) (u' 3))::(S++(T1++T2)))) (c1:o1.data=.cell (some (.int at_ ta))) (c2:o2.data=.cell (some (.int side tb))) (c3:o3.data=.cell v3) (c4:o4.data=.cell v4) (c5:o5.data=.cell v5) (c6:o6.data=.cell (some (.ref bl))) (c7:o7.data=.cell (some (.ref (A.b side)))) (c8:o8.data=.cell (some (.ref ow))) (next:∀ h₀' h' tk' m' news',LG w p loose mean mg mb A₀ base h₀'→Fr h₀' L h' m'→News h₀' L h' ((I,oI)::news')→LapJ w L I oI A dl bl ow sp (σ.lim+18) m' news'→P .next { s with heap:=h',toks:=tk' }),wpAny (model PySem.Challenge.rw_ok0063_01.prog w) ((lawA dp un gd).deeper (envOfC (ofString "law") cs L a (.ref 543))) (execs body (envOfC (ofString "law") cs L a (.ref 543))) P (fun e s'=>wpAny (model PySem.Challenge.rw_ok0063_01.prog w) ((lawA dp un gd).deeper (envOfC (ofString "law") cs L a (.ref 543))) (leaving (envOfC (ofString "law") cs L a (.ref 543)) e) (fun _ s''=>R (.error e) s'') (fun e' s''=>R (.error e') s'') s') s
end
section
open PyProof.V PyProof.Rows.LCg
noncomputable def P_tt_new (w:World) (L I:Nat) (oI:Obj) (A:Ad) (σ:Sg) (dl bl ow sp hl:Addr) (x:Int→Addr) (u u':Int→Tok) (S T1 T2 W:Led) (dv:List Value) (nd nb no ns nh:Nat) (s0 s1:Tok) (o1 o2 o3 o4 o5 o6 o7 o8:Obj) (q:Prod Addr Obj) : Prop:=∀ (hS:St w A σ S) (lI:L+8<I) (hW:∀ q∈(I,oI)::(L+1+1+1+1+1+1+1+1,o8)::(L+1+1+1+1+1+1+1,o7)::(L+1+1+1+1+1+1,o6)::(L+1+1+1+1+1,o5)::(L+1+1+1+1,o4)::(L+1+1+1,o3)::(L+1+1,o2)::(L+1,o1)::(dl,listOf (List.toArray dv) nd)::(bl,listOf #[.ref (A.b 0),.ref (A.b 1)] nb)::(ow,listOf #[.ref (A.ma 0),.ref (A.ma 1),.ref (A.ma 2),.ref (A.ma 3)] no)::(sp,listOf #[.int (σ.point 0) s0,.int (σ.point 1) s1] ns)::(hl,listOf #[.ref (x 0),.ref (x 1),.ref (x 2),.ref (x 3)] nh)::(x 0,tupO (σ.home 0) (σ.pos 0) (u 0) (u' 0))::(x 1,tupO (σ.home 1) (σ.pos 1) (u 1) (u' 1))::(x 2,tupO (σ.home 2) (σ.pos 2) (u 2) (u' 2))::(x 3,tupO (σ.home 3) (σ.pos 3) (u 3) (u' 3))::(S++(T1++T2)),q∈W) (h:∀ p∈W,@LT.lt Nat _ p.1 q.1),q.1 ∉ A.all∧(@LT.lt Nat _ (L+8) q.1)∧@Ne Nat q.1 dl∧@Ne Nat q.1 sp∧@Ne Nat q.1 hl∧@Ne Nat q.1 I
end
section
open PyProof.V PyProof.Rows.LCg
noncomputable def P_lap_gen (w:World) (L I:Nat) (oI:Obj) (A:Ad) (σ:Sg) (dl bl ow sp hl:Addr) (x:Int→Addr) (u u':Int→Tok) (S T1 T2:Led) (dv:List Value) (dn:List Int) (nd nb no ns nh:Nat) (s0 s1:Tok) (o1 o2 o3 o4 o5 o6 o7 o8:Obj) (lim:Nat) (h₀ h':Heap) (m':Str→Option Value) : Prop:=∀ (II:LI w L I A σ dl bl ow sp hl x S T1 T2 dv dn) (N:News h₀ L h' ((I,oI)::(L+1+1+1+1+1+1+1+1,o8)::(L+1+1+1+1+1+1+1,o7)::(L+1+1+1+1+1+1,o6)::(L+1+1+1+1+1,o5)::(L+1+1+1+1,o4)::(L+1+1+1,o3)::(L+1+1,o2)::(L+1,o1)::(dl,listOf (List.toArray dv) nd)::(bl,listOf #[.ref (A.b 0),.ref (A.b 1)] nb)::(ow,listOf #[.ref (A.ma 0),.ref (A.ma 1),.ref (A.ma 2),.ref (A.ma 3)] no)::(sp,listOf #[.int (σ.point 0) s0,.int (σ.point 1) s1] ns)::(hl,listOf #[.ref (x 0),.ref (x 1),.ref (x 2),.ref (x 3)] nh)::(x 0,tupO (σ.home 0) (σ.pos 0) (u 0) (u' 0))::(x 1,tupO (σ.home 1) (σ.pos 1) (u 1) (u' 1))::(x 2,tupO (σ.home 2) (σ.pos 2) (u 2) (u' 2))::(x 3,tupO (σ.home 3) (σ.pos 3) (u 3) (u' 3))::(S++(T1++T2)))) (x9:Fr h₀ L h' m') (hlim:σ.lim≤lim) (h1:m' (ofString "deck")=some (.ref dl)) (h2:m' (ofString "homes")=some (.ref hl)) (h3:m' (ofString "spots")=some (.ref sp)) (cs:(Cells6 o1 o2 o3 o4 o5 o7)) (c6:o6.data=.cell (some (.ref bl))) (c8:o8.data=.cell (some (.ref ow))),∃ news',News h₀ L h' ((I,oI)::news')∧LapJ w L I oI A dl bl ow sp lim m' news'
end
section
open PyProof.V PyProof.Rows.LCg
noncomputable def P_lap_row2 (f:Int→Int) (w:World) (L I:Nat) (oI:Obj) (A:Ad) (σ σ':Sg) (dl bl ow sp hl:Addr) (x:Int→Addr) (u u':Int→Tok) (S S' T1 T2:Led) (dv dv':List Value) (dn dn':List Int) (nd nb no ns nh:Nat) (s0 s1:Tok) (o1 o2 o3 o4 o5 o6 o7 o8:Obj) (lim:Nat) (h₀ h':Heap) (m':Str→Option Value) (i hn pn:Int) (T:Addr) (b b':Tok) : Prop:=∀ (II:LI w L I A σ dl bl ow sp hl x S T1 T2 dv dn) (hS:St w A σ' S') (di:IntsAre dv' dn') (dz:dn'.length≤20) (N:News h₀ L h' ((T,tupO hn pn b b')::(I,oI)::(L+1+1+1+1+1+1+1+1,o8)::(L+1+1+1+1+1+1+1,o7)::(L+1+1+1+1+1+1,o6)::(L+1+1+1+1+1,o5)::(L+1+1+1+1,o4)::(L+1+1+1,o3)::(L+1+1,o2)::(L+1,o1)::(dl,listOf (List.toArray dv') nd)::(bl,listOf #[.ref (A.b 0),.ref (A.b 1)] nb)::(ow,listOf #[.ref (A.ma 0),.ref (A.ma 1),.ref (A.ma 2),.ref (A.ma 3)] no)::(sp,listOf #[.int (f 0) s0,.int (f 1) s1] ns)::(hl,listOf #[.ref (updA x i T 0),.ref (updA x i T 1),.ref (updA x i T 2),.ref (updA x i T 3)] nh)::(x 0,tupO (σ.home 0) (σ.pos 0) (u 0) (u' 0))::(x 1,tupO (σ.home 1) (σ.pos 1) (u 1) (u' 1))::(x 2,tupO (σ.home 2) (σ.pos 2) (u 2) (u' 2))::(x 3,tupO (σ.home 3) (σ.pos 3) (u 3) (u' 3))::(S'++(T1++T2)))) (x9:Fr h₀ L h' m') (l1 : @LT.lt Nat _ I T∧@LT.lt Nat _ (L+1+1+1+1+1+1+1+1) T∧@LT.lt Nat _ (L+1+1+1+1+1+1+1) T∧@LT.lt Nat _ (L+1+1+1+1+1+1) T∧@LT.lt Nat _ (L+1+1+1+1+1) T∧@LT.lt Nat _ (L+1+1+1+1) T∧@LT.lt Nat _ (L+1+1+1) T∧@LT.lt Nat _ (L+1+1) T∧@LT.lt Nat _ (L+1) T∧@LT.lt Nat _ dl T∧@LT.lt Nat _ bl T∧@LT.lt Nat _ ow T∧@LT.lt Nat _ sp T∧@LT.lt Nat _ hl T∧@LT.lt Nat _ (x 0) T∧@LT.lt Nat _ (x 1) T∧@LT.lt Nat _ (x 2) T∧@LT.lt Nat _ (x 3) T∧AllLt T (S'++(T1++T2))) (eh:σ'.home=upd σ.home i hn) (ep:σ'.pos=upd σ.pos i pn) (et:σ'.point=f) (hlim:σ'.lim≤lim) (good:∀ i∈ids,(σ'.home i=-1∧σ'.pos i=0)∨(σ'.home i∈sides∧1≤σ'.pos i∧σ'.pos i≤σ'.size (σ'.home i)+1)) (pts:∀ j∈sides,0≤σ'.size j∧σ'.size j≤σ'.lim∧1≤σ'.point j∧σ'.point j≤σ'.size j+1) (h1:m' (ofString "deck")=some (.ref dl)) (h2:m' (ofString "homes")=some (.ref hl)) (h3:m' (ofString "spots")=some (.ref sp)) (cs:(Cells6 o1 o2 o3 o4 o5 o7)) (c6:o6.data=.cell (some (.ref bl))) (c8:o8.data=.cell (some (.ref ow))),∃ news',News h₀ L h' ((I,oI)::news')∧LapJ w L I oI A dl bl ow sp lim m' news'
end
section
noncomputable def P_way_5 (w:World) (dp un:Nat) (gd:Option (List Code)) (a:Addr) (A₀:Around) (base:Heap) (p:Program) (loose:List Str) (mean:ExcName→Option Value) (mg mb:Str→Option Value) (L I:Nat) (oI:Obj) (A:Ad) (s:Shared) (R:Result→Shared→Prop) (P:Flow→Shared→Prop) (dl bl ow sp:Addr) (h₀:Heap) (σ:Sg) (hl:Addr) (x:Int→Addr) (u u':Int→Tok) (S T1 T2:Led) (dv:List Value) (dn:List Int) (nd nb no ns nh:Nat) (s0 s1:Tok) (r:Str→Option Value) (o1 o2 o3 o4 o5 o6 o7 o8:Obj) (v3 v4 v5:Option Value) (at_ side:Int) (ta tb ts:Tok) (body:List PySem.Stmt) (cs:Scope) : Prop:=∀ (hb:wayD 4=some body) (XB:(Mine.hd.heap_1 w.params).In base) (TB:Top p loose mean mg mb base) (C1:CodeHd base 531 529) (C2:CodeHd base 543 541) (hc:lawD.map (·.1)=some cs) (hd:dp+40<recursionLimit) (hu:un+8 * 40<cLine) (G:LG w p loose mean mg mb A₀ base h₀) (II:LI w L I A σ dl bl ow sp hl x S T1 T2 dv dn) (hlim:σ.lim≤700) (ha:at_∈ids) (hs:side∈sides) (F:Fr h₀ L s.heap (fun y=>if y=ofString "size" then some (.int (σ.size side) ts) else (if y=ofString "deck" then some (.ref dl) else if y=ofString "homes" then some (.ref hl) else if y=ofString "spots" then some (.ref sp) else r y))) (N:News h₀ L s.heap ((I,oI)::(L+1+1+1+1+1+1+1+1,o8)::(L+1+1+1+1+1+1+1,o7)::(L+1+1+1+1+1+1,o6)::(L+1+1+1+1+1,o5)::(L+1+1+1+1,o4)::(L+1+1+1,o3)::(L+1+1,o2)::(L+1,o1)::(dl,listOf (List.toArray dv) nd)::(bl,listOf #[.ref (A.b 0),.ref (A.b 1)] nb)::(ow,listOf #[.ref (A.ma 0),.ref (A.ma 1),.ref (A.ma 2),.ref (A.ma 3)] no)::(sp,listOf #[.int (σ.point 0) s0,.int (σ.point 1) s1] ns)::(hl,listOf #[.ref (x 0),.ref (x 1),.ref (x 2),.ref (x 3)] nh)::(x 0,tupO (σ.home 0) (σ.pos 0) (u 0) (u' 0))::(x 1,tupO (σ.home 1) (σ.pos 1) (u 1) (u' 1))::(x 2,tupO (σ.home 2) (σ.pos 2) (u 2) (u' 2))::(x 3,tupO (σ.home 3) (σ.pos 3) (u 3) (u' 3))::(S++(T1++T2)))) (c1:o1.data=.cell (some (.int at_ ta))) (c2:o2.data=.cell (some (.int side tb))) (c3:o3.data=.cell v3) (c4:o4.data=.cell v4) (c5:o5.data=.cell v5) (c6:o6.data=.cell (some (.ref bl))) (c7:o7.data=.cell (some (.ref (A.b side)))) (c8:o8.data=.cell (some (.ref ow))) (next:∀ h₀' h' tk' m' news',LG w p loose mean mg mb A₀ base h₀'→Fr h₀' L h' m'→News h₀' L h' ((I,oI)::news')→LapJ w L I oI A dl bl ow sp (σ.lim+18) m' news'→P .next { s with heap:=h',toks:=tk' }),wpAny (model PySem.Challenge.rw_ok0063_01.prog w) ((lawA dp un gd).deeper (envOfC (ofString "law") cs L a (.ref 543))) (execs body (envOfC (ofString "law") cs L a (.ref 543))) P (fun e s'=>wpAny (model PySem.Challenge.rw_ok0063_01.prog w) ((lawA dp un gd).deeper (envOfC (ofString "law") cs L a (.ref 543))) (leaving (envOfC (ofString "law") cs L a (.ref 543)) e) (fun _ s''=>R (.error e) s'') (fun e' s''=>R (.error e') s'') s') s
end
section
noncomputable def P_way_6 (w:World) (dp un:Nat) (gd:Option (List Code)) (a:Addr) (A₀:Around) (base:Heap) (p:Program) (loose:List Str) (mean:ExcName→Option Value) (mg mb:Str→Option Value) (L I:Nat) (oI:Obj) (A:Ad) (s:Shared) (R:Result→Shared→Prop) (P:Flow→Shared→Prop) (dl bl ow sp:Addr) (h₀:Heap) (σ:Sg) (hl:Addr) (x:Int→Addr) (u u':Int→Tok) (S T1 T2:Led) (dv:List Value) (dn:List Int) (nd nb no ns nh:Nat) (s0 s1:Tok) (r:Str→Option Value) (o1 o2 o3 o4 o5 o6 o7 o8:Obj) (v3 v4 v5:Option Value) (at_ side:Int) (ta tb ts:Tok) (body:List PySem.Stmt) (cs:Scope) : Prop:=∀ (hb:restD 4=some body) (XB:(Mine.hd.heap_1 w.params).In base) (TB:Top p loose mean mg mb base) (C1:CodeHd base 531 529) (C2:CodeHd base 543 541) (hc:lawD.map (·.1)=some cs) (hd:dp+40<recursionLimit) (hu:un+8 * 40<cLine) (G:LG w p loose mean mg mb A₀ base h₀) (II:LI w L I A σ dl bl ow sp hl x S T1 T2 dv dn) (hlim:σ.lim≤700) (ha:at_∈ids) (hs:side∈sides) (F:Fr h₀ L s.heap (fun y=>if y=ofString "size" then some (.int (σ.size side) ts) else (if y=ofString "deck" then some (.ref dl) else if y=ofString "homes" then some (.ref hl) else if y=ofString "spots" then some (.ref sp) else r y))) (N:News h₀ L s.heap ((I,oI)::(L+1+1+1+1+1+1+1+1,o8)::(L+1+1+1+1+1+1+1,o7)::(L+1+1+1+1+1+1,o6)::(L+1+1+1+1+1,o5)::(L+1+1+1+1,o4)::(L+1+1+1,o3)::(L+1+1,o2)::(L+1,o1)::(dl,listOf (List.toArray dv) nd)::(bl,listOf #[.ref (A.b 0),.ref (A.b 1)] nb)::(ow,listOf #[.ref (A.ma 0),.ref (A.ma 1),.ref (A.ma 2),.ref (A.ma 3)] no)::(sp,listOf #[.int (σ.point 0) s0,.int (σ.point 1) s1] ns)::(hl,listOf #[.ref (x 0),.ref (x 1),.ref (x 2),.ref (x 3)] nh)::(x 0,tupO (σ.home 0) (σ.pos 0) (u 0) (u' 0))::(x 1,tupO (σ.home 1) (σ.pos 1) (u 1) (u' 1))::(x 2,tupO (σ.home 2) (σ.pos 2) (u 2) (u' 2))::(x 3,tupO (σ.home 3) (σ.pos 3) (u 3) (u' 3))::(S++(T1++T2)))) (c1:o1.data=.cell (some (.int at_ ta))) (c2:o2.data=.cell (some (.int side tb))) (c3:o3.data=.cell v3) (c4:o4.data=.cell v4) (c5:o5.data=.cell v5) (c6:o6.data=.cell (some (.ref bl))) (c7:o7.data=.cell (some (.ref (A.b side)))) (c8:o8.data=.cell (some (.ref ow))) (next:∀ h₀' h' tk' m' news',LG w p loose mean mg mb A₀ base h₀'→Fr h₀' L h' m'→News h₀' L h' ((I,oI)::news')→LapJ w L I oI A dl bl ow sp (σ.lim+18) m' news'→P .next { s with heap:=h',toks:=tk' }),wpAny (model PySem.Challenge.rw_ok0063_01.prog w) ((lawA dp un gd).deeper (envOfC (ofString "law") cs L a (.ref 543))) (execs body (envOfC (ofString "law") cs L a (.ref 543))) P (fun e s'=>wpAny (model PySem.Challenge.rw_ok0063_01.prog w) ((lawA dp un gd).deeper (envOfC (ofString "law") cs L a (.ref 543))) (leaving (envOfC (ofString "law") cs L a (.ref 543)) e) (fun _ s''=>R (.error e) s'') (fun e' s''=>R (.error e') s'') s') s
end
section
open PyProof.V PyProof.Rows.LCg
noncomputable def P_compP (prog:Program) (w:World) (E:Value→Shared→Prop) (s:Shared) (env:Env) (h₀:Heap) (L:Addr) (elt iter:PySem.Expr) (b:Str) (pa pb tp:Pos) (kk:Nat) (scope:Scope) (cl:List (Prod Str Addr)) (pos:Pos) (m:Str→Option Value) (news:Led) (RR:Value→Addr→Result→Shared→Prop) (I:Addr) (fp wr:List Addr) (n:Nat) (Md:Nat→Value→Heap→Prop) (xy:Nat→Value→Value→Prop) (Lo:Nat) (J:Nat→List Value→Led→Prop) (A:Around) (a:Str) (P:Nat→Value→Heap→Prop) (St:Nat→Heap→Prop) : Prop:=∀ (W:KTurns prog w A (.Tuple [.Name a pa,.Name b pb] kk tp) I fp wr n P Md St) (hh:A.handled=none) (hP:∀ i v h,P i v h→∃ T x y,v=.ref T∧xy i x y∧h.IsTuple T #[x,y]) (hself:∀ (s':Shared) (E':Value→Shared→Prop) (Q':Value→Shared→Prop),St 0 s'.heap→Q' (.ref I) s'→wpAny (model prog w) A (pyIter (.ref I)) Q' E' s') (hLf:L ∉ fp) (hfp:∀ b∈fp,@LT.lt Nat _ b s.heap.objs.size) (hfp0:∀ b∈fp,h₀.get? b=none) (hwr:∀ b∈wr,@LE.le Nat _ Lo b∧@LT.lt Nat _ b s.heap.objs.size) (hLo:Lo≤s.heap.objs.size) (hlo:∀ p∈news,@LT.lt Nat _ p.1 Lo) (hst:St 0 s.heap) (hz:n≤sizeLine) (F:Fr h₀ L s.heap m) (N:News h₀ L s.heap news) (hcell:∀ y∈scope.names,y.2≠.cell) (hkind:scope.kind=.function) (hxa:scope.names.lookup a=some .local) (hxb:scope.names.lookup b=some .local) (hab : ¬ a=b) (J0:J 0 [] news) (step:∀ i x y zs C oC D m₂ h tk nw own,i<n→xy i x y→J i zs nw→NsObj oC m₂→m₂ a=some x→m₂ b=some y→Fr h₀ L h m→News h₀ L h ((C,oC)::(D,lst zs)::(nw++own))→(∀ p∈nw,@LT.lt Nat _ p.1 Lo∨@LT.lt Nat _ C p.1)→@LE.le Nat _ Lo D→@LT.lt Nat _ D C →
      ∀ (P1:Value→Shared→Prop) (E':Value→Shared→Prop),(∀ v h' tk' nw',Fr h₀ L h' m→News h₀ L h' ((C,oC)::(D,lst zs)::(nw'++own))→(∀ p∈nw',@LT.lt Nat _ p.1 Lo∨@LT.lt Nat _ C p.1)→J (i+1) (zs++[v]) nw'→P1 v { s with heap:=h',toks:=tk' }) →
      wpAny (model prog w) A (eval elt (compEnvC scope cl C env)) P1 E' { s with heap:=h,toks:=tk }) (done:∀ D C zs nw h tk m',J n zs nw→Fr h₀ L h m→News h₀ L h ((D,lst zs)::nw)→(∀ p∈nw,@LT.lt Nat _ p.1 Lo∨@LT.lt Nat _ C p.1)→@LE.le Nat _ Lo D→@LT.lt Nat _ D C→h.Ns C m'→C≠L→h₀.get? C=none→RR (.ref D) C (.ok .next) { s with heap:=h,toks:=tk }),wpAny (model prog w) A (newList []) (fun acc s₃=>wpAny (model prog w) A (newFunctionEnv scope env.globals cl [] env.qual none .none (some env)) (fun cenv s₄ =>
      codeAny (model prog w) A (.compStart (.ListComp elt [⟨.Tuple [.Name a pa,.Name b pb] kk tp,iter,[],0⟩] scope pos) 0 (.ref I) acc { cenv with scope:=relabel scope env }) (RR acc cenv.locals) s₄) E s₃) E s
end
section
open PyProof.V PyProof.Rows.LCg
noncomputable def P_rowsC (prog:Program) (w:World) (E:Value→Shared→Prop) (s:Shared) (env:Env) (h₀:Heap) (L:Addr) (elt iter:PySem.Expr) (b:Str) (pa pb tp:Pos) (kk:Nat) (scope:Scope) (cl:List (Prod Str Addr)) (pos:Pos) (hl:Addr) (nh:Nat) (x:Int→Addr) (hm:Int→Int) (u u':Int→Tok) (m:Str→Option Value) (news:Led) (RR:Value→Addr→Result→Shared→Prop) (A:Around) (a:Str) (p:Int→Int) : Prop:=∀ (hh:A.handled=none) (F:Fr h₀ L s.heap m) (N:News h₀ L s.heap news) (h1:(hl,listOf #[.ref (x 0),.ref (x 1),.ref (x 2),.ref (x 3)] nh)∈news) (hx:∀ k∈ids,(x k,tupO (hm k) (p k) (u k) (u' k))∈news) (hcell:∀ y∈scope.names,y.2≠.cell) (hkind:scope.kind=.function) (hxa:scope.names.lookup a=some .local) (hxb:scope.names.lookup b=some .local) (hab : ¬ a=b) (rest:∀ Lo:Nat,(∀ p∈news,p.1<Lo)→∃ J:Nat→List Value→Led→Prop,J 0 [] news ∧
      (∀ (i:Nat) (i':Int) zs C oC D m₂ h tk nw own,i'∈ids→(i:Int)=i'→J i zs nw→NsObj oC m₂→m₂ a=some (.int (hm i') (u i'))→m₂ b=some (.int (p i') (u' i'))→Fr h₀ L h m→News h₀ L h ((C,oC)::(D,lst zs)::(nw++own))→(∀ p∈nw,@LT.lt Nat _ p.1 Lo∨@LT.lt Nat _ C p.1)→@LE.le Nat _ Lo D→@LT.lt Nat _ D C →
        ∀ (P1:Value→Shared→Prop) (E':Value→Shared→Prop),(∀ v h' tk' nw',Fr h₀ L h' m→News h₀ L h' ((C,oC)::(D,lst zs)::(nw'++own))→(∀ p∈nw',@LT.lt Nat _ p.1 Lo∨@LT.lt Nat _ C p.1)→J (i+1) (zs++[v]) nw'→P1 v { s with heap:=h',toks:=tk' }) →
        wpAny (model prog w) A (eval elt (compEnvC scope cl C env)) P1 E' { s with heap:=h,toks:=tk }) ∧
      ∀ D C zs nw h tk m',J 4 zs nw→Fr h₀ L h m→News h₀ L h ((D,lst zs)::nw)→(∀ p∈nw,@LT.lt Nat _ p.1 Lo∨@LT.lt Nat _ C p.1)→@LE.le Nat _ Lo D→@LT.lt Nat _ D C→h.Ns C m'→C≠L→h₀.get? C=none→∀ s':Shared,s'={ s with heap:=h,toks:=tk }→RR (.ref D) C (.ok .next) s'),wpAny (model prog w) A (pyIter (.ref hl)) (fun it s₂=>wpAny (model prog w) A (newList []) (fun acc s₃ =>
      wpAny (model prog w) A (newFunctionEnv scope env.globals cl [] env.qual none .none (some env)) (fun cenv s₄ =>
        codeAny (model prog w) A (.compStart (.ListComp elt [⟨.Tuple [.Name a pa,.Name b pb] kk tp,iter,[],0⟩] scope pos) 0 it acc { cenv with scope:=relabel scope env }) (RR acc cenv.locals) s₄) E s₃) E s₂) E s
end
section
noncomputable def P_c4_end (h₀ h':Heap) (L D T':Addr) (m:Str→Option Value) (oC:Obj) (zs:List Value) (nw own news W ex:Led) (s:Shared) (P1:Value→Shared→Prop) (hm pm:Int→Int) (Lo:Nat) (q0:Int) (t t':Tok) (tk:Nat) (K:Prop) (C:Addr) (i:Nat) (i':Int) : Prop:=∀ (f1:∀ v h' tk' nw',Fr h₀ L h' m→News h₀ L h' ((C,oC)::(D,LCg.lst zs)::(nw'++own))→(∀ p∈nw',@LT.lt Nat _ p.1 Lo∨@LT.lt Nat _ C p.1)→J4 news hm pm Lo (i+1) (zs++[v]) nw'→P1 v { s with heap:=h',toks:=tk' }) (hJ:J4 news hm pm Lo i zs nw) (hnw:∀ p∈nw,@LT.lt Nat _ p.1 Lo∨@LT.lt Nat _ C p.1) (hii:(i:Int)=i') (hD:Lo≤D) (hDC : @LT.lt Nat _ D C) (hW:W=(D,LCg.lst zs)::(nw++own)) (F:Fr h₀ L h' m) (N:News h₀ L h' ((T',tupO (hm i') q0 t t')::(C,oC)::(ex++W))) (l1 : @LT.lt Nat _ C T'∧K) (eq:q0=pm i'),P1 (.ref T') { s with heap:=h',toks:=tk }
end
section
noncomputable def P_homes4 (w:World) (dp un:Nat) (gd:Option (List Code)) (a:Addr) (A₀:Around) (base:Heap) (p_:Program) (loose:List Str) (mean:ExcName→Option Value) (mg mb:Str→Option Value) (L I:Nat) (oI:Obj) (A:Ad) (s:Shared) (R:Result→Shared→Prop) (P:Flow→Shared→Prop) (dl bl ow sp:Addr) (h₀:Heap) (hl:Addr) (x:Int→Addr) (hm:Int→Int) (u u':Int→Tok) (nh:Nat) (m:Str→Option Value) (news:Led) (o2 o3 o4 o5:Obj) (side s_ e_ n_:Int) (t2 t3 t4 t5:Tok) (st:PySem.Stmt) (cs:Scope) (p:Int→Int) : Prop:=∀ (hb:homesD=some st) (hc:lawD.map (·.1)=some cs) (hd:dp+40<recursionLimit) (hu:un+8 * 40<cLine) (B:Below A₀ base [] h₀) (X:(Mine.hd.heap_1 w.params).In h₀) (Tp:Top p_ loose mean mg mb h₀) (F:Fr h₀ L s.heap m) (hmm:m (ofString "homes")=some (.ref hl)) (N:News h₀ L s.heap news) (h1:(hl,listOf #[.ref (x 0),.ref (x 1),.ref (x 2),.ref (x 3)] nh)∈news) (hx:∀ k∈ids,(x k,tupO (hm k) (p k) (u k) (u' k))∈news) (c2:(L+1+1,o2)∈news) (c3:(L+1+1+1,o3)∈news) (c4:(L+1+1+1+1,o4)∈news) (c5:(L+1+1+1+1+1,o5)∈news) (d2:o2.data=.cell (some (.int side t2))) (d3:o3.data=.cell (some (.int s_ t3))) (d4:o4.data=.cell (some (.int e_ t4))) (d5:o5.data=.cell (some (.int n_ t5))) (next:∀ (D:Addr) (T:Int→Addr) (b b':Int→Tok) (h':Heap) (tk':Nat),Fr h₀ L h' (fun z=>if z=ofString "homes" then some (.ref D) else m z)→News h₀ L h' ((D,listOf #[.ref (T 0),.ref (T 1),.ref (T 2),.ref (T 3)] 4)::(T 0,tupO (hm 0) ((fun k=>if hm k=side then led1 (p k) s_ e_ n_ else p k) 0) (b 0) (b' 0))::(T 1,tupO (hm 1) ((fun k=>if hm k=side then led1 (p k) s_ e_ n_ else p k) 1) (b 1) (b' 1))::(T 2,tupO (hm 2) ((fun k=>if hm k=side then led1 (p k) s_ e_ n_ else p k) 2) (b 2) (b' 2))::(T 3,tupO (hm 3) ((fun k=>if hm k=side then led1 (p k) s_ e_ n_ else p k) 3) (b 3) (b' 3))::news) →
      (∀ q∈news,@LT.lt Nat _ q.1 D)→(∀ i∈ids,@LT.lt Nat _ D (T i))→P .next { s with heap:=h',toks:=tk' }),wpAny (model PySem.Challenge.rw_ok0063_01.prog w) ((lawA dp un gd).deeper (envOfC (ofString "law") cs L a (.ref 543))) (exec st (envOfC (ofString "law") cs L a (.ref 543))) P (fun e s'=>wpAny (model PySem.Challenge.rw_ok0063_01.prog w) ((lawA dp un gd).deeper (envOfC (ofString "law") cs L a (.ref 543))) (leaving (envOfC (ofString "law") cs L a (.ref 543)) e) (fun _ s''=>R (.error e) s'') (fun e' s''=>R (.error e') s'') s') s
end
section
open PyProof.V PyProof.Rows.LCg
noncomputable def P_LI_fresh (w:World) (L I:Nat) (A:Ad) (σ σ':Sg) (dl bl ow sp hl D:Addr) (x:Int→Addr) (S S' T1 T2:Led) (dv dv':List Value) (dn dn':List Int) (T:Int→Addr) : Prop:=∀ (II:LI w L I A σ dl bl ow sp hl x S T1 T2 dv dn) (hS:St w A σ' S') (di:IntsAre dv' dn') (dz:dn'.length≤20) (good:∀ i∈ids,(σ'.home i=-1∧σ'.pos i=0)∨(σ'.home i∈sides∧1≤σ'.pos i∧σ'.pos i≤σ'.size (σ'.home i)+1)) (pts:∀ j∈sides,0≤σ'.size j∧σ'.size j≤σ'.lim∧1≤σ'.point j∧σ'.point j≤σ'.size j+1) (hI : @LT.lt Nat _ I D) (hdl : @LT.lt Nat _ dl D) (hbl : @LT.lt Nat _ bl D) (how : @LT.lt Nat _ ow D) (hsp : @LT.lt Nat _ sp D) (hSD:∀ q∈S'++(T1++T2),@LT.lt Nat _ q.1 D) (lT:∀ i∈ids,@LT.lt Nat _ D (T i)),LI w L I A σ' dl bl ow sp D T S' T1 T2 dv' dn'
end
section
noncomputable def P_lap_fresh (w:World) (L I:Nat) (oI:Obj) (A:Ad) (σ:Sg) (D:Addr) (Tn:Int→Addr) (side s_ e_ n_:Int) (s0' s1':Tok) (dl bl ow sp hl:Addr) (x:Int→Addr) (u u':Int→Tok) (S S' T1 T2:Led) (dv dv':List Value) (dn dn':List Int) (nd nb no ns nh:Nat) (s0 s1:Tok) (o1 o2 o3 o4 o5 o6 o7 o8:Obj) (h₀ h':Heap) (m':Str→Option Value) (b b':Int→Tok) : Prop:=∀ (II:LI w L I A σ dl bl ow sp hl x S T1 T2 dv dn) (hS:St w A (σ.edit side s_ e_ n_) S') (di:IntsAre dv' dn') (dz:dn'.length≤20) (good:∀ i∈ids,((σ.edit side s_ e_ n_).home i=-1∧(σ.edit side s_ e_ n_).pos i=0)∨((σ.edit side s_ e_ n_).home i∈sides∧1≤(σ.edit side s_ e_ n_).pos i∧(σ.edit side s_ e_ n_).pos i≤(σ.edit side s_ e_ n_).size ((σ.edit side s_ e_ n_).home i)+1)) (pts:∀ j∈sides,0≤(σ.edit side s_ e_ n_).size j∧(σ.edit side s_ e_ n_).size j≤(σ.edit side s_ e_ n_).lim∧1≤(σ.edit side s_ e_ n_).point j∧(σ.edit side s_ e_ n_).point j≤(σ.edit side s_ e_ n_).size j+1) (N:News h₀ L h' ((D,listOf #[.ref (Tn 0),.ref (Tn 1),.ref (Tn 2),.ref (Tn 3)] 4)::(Tn 0,tupO ((σ.edit side s_ e_ n_).home 0) ((σ.edit side s_ e_ n_).pos 0) (b 0) (b' 0))::(Tn 1,tupO ((σ.edit side s_ e_ n_).home 1) ((σ.edit side s_ e_ n_).pos 1) (b 1) (b' 1))::(Tn 2,tupO ((σ.edit side s_ e_ n_).home 2) ((σ.edit side s_ e_ n_).pos 2) (b 2) (b' 2))::(Tn 3,tupO ((σ.edit side s_ e_ n_).home 3) ((σ.edit side s_ e_ n_).pos 3) (b 3) (b' 3))::(dl,listOf (List.toArray dv') nd)::(I,oI)::(L+1+1+1+1+1+1+1+1,o8)::(L+1+1+1+1+1+1+1,o7)::(L+1+1+1+1+1+1,o6)::(L+1+1+1+1+1,o5)::(L+1+1+1+1,o4)::(L+1+1+1,o3)::(L+1+1,o2)::(L+1,o1)::(bl,listOf #[.ref (A.b 0),.ref (A.b 1)] nb)::(ow,listOf #[.ref (A.ma 0),.ref (A.ma 1),.ref (A.ma 2),.ref (A.ma 3)] no)::(sp,listOf #[.int ((σ.edit side s_ e_ n_).point 0) s0',.int ((σ.edit side s_ e_ n_).point 1) s1'] ns)::(hl,listOf #[.ref (x 0),.ref (x 1),.ref (x 2),.ref (x 3)] nh)::(x 0,tupO (σ.home 0) (σ.pos 0) (u 0) (u' 0))::(x 1,tupO (σ.home 1) (σ.pos 1) (u 1) (u' 1))::(x 2,tupO (σ.home 2) (σ.pos 2) (u 2) (u' 2))::(x 3,tupO (σ.home 3) (σ.pos 3) (u 3) (u' 3))::(S'++(T1++T2)))) (x9:Fr h₀ L h' m') (lD:∀ q∈(dl,listOf (List.toArray dv') nd)::(I,oI)::(L+1+1+1+1+1+1+1+1,o8)::(L+1+1+1+1+1+1+1,o7)::(L+1+1+1+1+1+1,o6)::(L+1+1+1+1+1,o5)::(L+1+1+1+1,o4)::(L+1+1+1,o3)::(L+1+1,o2)::(L+1,o1)::(bl,listOf #[.ref (A.b 0),.ref (A.b 1)] nb)::(ow,listOf #[.ref (A.ma 0),.ref (A.ma 1),.ref (A.ma 2),.ref (A.ma 3)] no)::(sp,listOf #[.int (σ.point 0) s0,.int (σ.point 1) s1] ns)::(hl,listOf #[.ref (x 0),.ref (x 1),.ref (x 2),.ref (x 3)] nh)::(x 0,tupO (σ.home 0) (σ.pos 0) (u 0) (u' 0))::(x 1,tupO (σ.home 1) (σ.pos 1) (u 1) (u' 1))::(x 2,tupO (σ.home 2) (σ.pos 2) (u 2) (u' 2))::(x 3,tupO (σ.home 3) (σ.pos 3) (u 3) (u' 3))::(S'++(T1++T2)),@LT.lt Nat _ q.1 D) (lT:∀ i∈ids,@LT.lt Nat _ D (Tn i)) (h1:m' (ofString "deck")=some (.ref dl)) (h2:m' (ofString "homes")=some (.ref D)) (h3:m' (ofString "spots")=some (.ref sp)) (cs:(Cells6 o1 o2 o3 o4 o5 o7)) (c6:o6.data=.cell (some (.ref bl))) (c8:o8.data=.cell (some (.ref ow))),∃ news',News h₀ L h' ((I,oI)::news')∧LapJ w L I oI A dl bl ow sp (σ.lim+18) m' news'
end
section
noncomputable def P_way4_tail (w:World) (dp un:Nat) (gd:Option (List Code)) (a:Addr) (A₀:Around) (base:Heap) (p:Program) (loose:List Str) (mean:ExcName→Option Value) (mg mb:Str→Option Value) (L I:Nat) (oI:Obj) (A:Ad) (s:Shared) (R:Result→Shared→Prop) (P:Flow→Shared→Prop) (dl bl ow sp:Addr) (h₀:Heap) (σ:Sg) (hl:Addr) (x:Int→Addr) (u u':Int→Tok) (S S' T1 T2:Led) (dv dv':List Value) (dn dn':List Int) (s_ e_ n_:Int) (t3 t4 t5:Tok) (m:Str→Option Value) (nd nb no ns nh:Nat) (s0 s1:Tok) (r:Str→Option Value) (o1 o2 o3 o4 o5 o6 o7 o8:Obj) (v3 v4 v5:Option Value) (at_ side:Int) (ta tb ts:Tok) (body:List PySem.Stmt) (cs:Scope) : Prop:=∀ (hb:tail4D=some body) (hc:lawD.map (·.1)=some cs) (hd:dp+40<recursionLimit) (hu:un+8 * 40<cLine) (G:LG w p loose mean mg mb A₀ base h₀) (II:LI w L I A σ dl bl ow sp hl x S T1 T2 dv dn) (hs:side∈sides) (F:Fr h₀ L s.heap m) (m1:m (ofString "deck")=some (.ref dl)) (m2:m (ofString "homes")=some (.ref hl)) (m3:m (ofString "spots")=some (.ref sp)) (N:News h₀ L s.heap ((dl,listOf (List.toArray dv') nd)::(I,oI)::(L+1+1+1+1+1+1+1+1,o8)::(L+1+1+1+1+1+1+1,o7)::(L+1+1+1+1+1+1,o6)::(L+1+1+1+1+1,o5)::(L+1+1+1+1,o4)::(L+1+1+1,o3)::(L+1+1,o2)::(L+1,o1)::(bl,listOf #[.ref (A.b 0),.ref (A.b 1)] nb)::(ow,listOf #[.ref (A.ma 0),.ref (A.ma 1),.ref (A.ma 2),.ref (A.ma 3)] no)::(sp,listOf #[.int (σ.point 0) s0,.int (σ.point 1) s1] ns)::(hl,listOf #[.ref (x 0),.ref (x 1),.ref (x 2),.ref (x 3)] nh)::(x 0,tupO (σ.home 0) (σ.pos 0) (u 0) (u' 0))::(x 1,tupO (σ.home 1) (σ.pos 1) (u 1) (u' 1))::(x 2,tupO (σ.home 2) (σ.pos 2) (u 2) (u' 2))::(x 3,tupO (σ.home 3) (σ.pos 3) (u 3) (u' 3))::(S'++(T1++T2)))) (di:IntsAre dv' dn') (dz:dn'.length≤20) (hS9:St w A (σ.edit side s_ e_ n_) S') (h1:1≤s_) (h2:s_≤e_) (h3:e_≤σ.size side+1) (h4:0≤n_) (h5:n_≤10) (h6:s_<e_→n_=0) (c1:o1.data=.cell (some (.int at_ ta))) (c2:o2.data=.cell (some (.int side tb))) (c3:o3.data=.cell (some (.int s_ t3))) (c4:o4.data=.cell (some (.int e_ t4))) (c5:o5.data=.cell (some (.int n_ t5))) (c6:o6.data=.cell (some (.ref bl))) (c7:o7.data=.cell (some (.ref (A.b side)))) (c8:o8.data=.cell (some (.ref ow))) (next:∀ h₀' h' tk' m' news',LG w p loose mean mg mb A₀ base h₀'→Fr h₀' L h' m'→News h₀' L h' ((I,oI)::news')→LapJ w L I oI A dl bl ow sp (σ.lim+18) m' news'→P .next { s with heap:=h',toks:=tk' }),wpAny (model PySem.Challenge.rw_ok0063_01.prog w) ((lawA dp un gd).deeper (envOfC (ofString "law") cs L a (.ref 543))) (execs body (envOfC (ofString "law") cs L a (.ref 543))) P (fun e s'=>wpAny (model PySem.Challenge.rw_ok0063_01.prog w) ((lawA dp un gd).deeper (envOfC (ofString "law") cs L a (.ref 543))) (leaving (envOfC (ofString "law") cs L a (.ref 543)) e) (fun _ s''=>R (.error e) s'') (fun e' s''=>R (.error e') s'') s') s
end
section
noncomputable def P_way_4 (w:World) (dp un:Nat) (gd:Option (List Code)) (a:Addr) (A₀:Around) (base:Heap) (p:Program) (loose:List Str) (mean:ExcName→Option Value) (mg mb:Str→Option Value) (L I:Nat) (oI:Obj) (A:Ad) (s:Shared) (R:Result→Shared→Prop) (P:Flow→Shared→Prop) (dl bl ow sp:Addr) (h₀:Heap) (σ:Sg) (hl:Addr) (x:Int→Addr) (u u':Int→Tok) (S T1 T2:Led) (dv:List Value) (dn:List Int) (nd nb no ns nh:Nat) (s0 s1:Tok) (r:Str→Option Value) (o1 o2 o3 o4 o5 o6 o7 o8:Obj) (v3 v4 v5:Option Value) (at_ side:Int) (ta tb ts:Tok) (body:List PySem.Stmt) (cs:Scope) : Prop:=∀ (hb:wayD 3=some body) (XB:(Mine.hd.heap_1 w.params).In base) (TB:Top p loose mean mg mb base) (C1:CodeHd base 531 529) (C2:CodeHd base 543 541) (hc:lawD.map (·.1)=some cs) (hd:dp+40<recursionLimit) (hu:un+8 * 40<cLine) (G:LG w p loose mean mg mb A₀ base h₀) (II:LI w L I A σ dl bl ow sp hl x S T1 T2 dv dn) (hlim:σ.lim≤700) (ha:at_∈ids) (hs:side∈sides) (F:Fr h₀ L s.heap (fun y=>if y=ofString "size" then some (.int (σ.size side) ts) else (if y=ofString "deck" then some (.ref dl) else if y=ofString "homes" then some (.ref hl) else if y=ofString "spots" then some (.ref sp) else r y))) (N:News h₀ L s.heap ((I,oI)::(L+1+1+1+1+1+1+1+1,o8)::(L+1+1+1+1+1+1+1,o7)::(L+1+1+1+1+1+1,o6)::(L+1+1+1+1+1,o5)::(L+1+1+1+1,o4)::(L+1+1+1,o3)::(L+1+1,o2)::(L+1,o1)::(dl,listOf (List.toArray dv) nd)::(bl,listOf #[.ref (A.b 0),.ref (A.b 1)] nb)::(ow,listOf #[.ref (A.ma 0),.ref (A.ma 1),.ref (A.ma 2),.ref (A.ma 3)] no)::(sp,listOf #[.int (σ.point 0) s0,.int (σ.point 1) s1] ns)::(hl,listOf #[.ref (x 0),.ref (x 1),.ref (x 2),.ref (x 3)] nh)::(x 0,tupO (σ.home 0) (σ.pos 0) (u 0) (u' 0))::(x 1,tupO (σ.home 1) (σ.pos 1) (u 1) (u' 1))::(x 2,tupO (σ.home 2) (σ.pos 2) (u 2) (u' 2))::(x 3,tupO (σ.home 3) (σ.pos 3) (u 3) (u' 3))::(S++(T1++T2)))) (c1:o1.data=.cell (some (.int at_ ta))) (c2:o2.data=.cell (some (.int side tb))) (c3:o3.data=.cell v3) (c4:o4.data=.cell v4) (c5:o5.data=.cell v5) (c6:o6.data=.cell (some (.ref bl))) (c7:o7.data=.cell (some (.ref (A.b side)))) (c8:o8.data=.cell (some (.ref ow))) (next:∀ h₀' h' tk' m' news',LG w p loose mean mg mb A₀ base h₀'→Fr h₀' L h' m'→News h₀' L h' ((I,oI)::news')→LapJ w L I oI A dl bl ow sp (σ.lim+18) m' news'→P .next { s with heap:=h',toks:=tk' }),wpAny (model PySem.Challenge.rw_ok0063_01.prog w) ((lawA dp un gd).deeper (envOfC (ofString "law") cs L a (.ref 543))) (execs body (envOfC (ofString "law") cs L a (.ref 543))) P (fun e s'=>wpAny (model PySem.Challenge.rw_ok0063_01.prog w) ((lawA dp un gd).deeper (envOfC (ofString "law") cs L a (.ref 543))) (leaving (envOfC (ofString "law") cs L a (.ref 543)) e) (fun _ s''=>R (.error e) s'') (fun e' s''=>R (.error e') s'') s') s
end
section
noncomputable def P_lap_tail (w:World) (dp un:Nat) (gd:Option (List Code)) (a:Addr) (A₀:Around) (base:Heap) (p:Program) (loose:List Str) (mean:ExcName→Option Value) (mg mb:Str→Option Value) (L I:Nat) (oI:Obj) (A:Ad) (s:Shared) (R:Result→Shared→Prop) (P:Flow→Shared→Prop) (dl bl ow sp:Addr) (h₀:Heap) (news:Led) (lim:Nat) (body:List PySem.Stmt) (cs:Scope) (m:Str→Option Value) : Prop:=∀ (hb:isoD=some body) (XB:(Mine.hd.heap_1 w.params).In base) (TB:Top p loose mean mg mb base) (C1:CodeHd base 531 529) (C2:CodeHd base 543 541) (hc:lawD.map (·.1)=some cs) (hd:dp+40<recursionLimit) (hu:un+8 * 40<cLine) (G:LG w p loose mean mg mb A₀ base h₀) (F:Fr h₀ L s.heap m) (N0:News h₀ L s.heap ((I,oI)::news)) (J:LapJ w L I oI A dl bl ow sp lim m news) (next:∀ h₀' h' tk' m' news',LG w p loose mean mg mb A₀ base h₀'→Fr h₀' L h' m'→News h₀' L h' ((I,oI)::news')→LapJ w L I oI A dl bl ow sp lim m' news'→P .next { s with heap:=h',toks:=tk' }),wpAny (model PySem.Challenge.rw_ok0063_01.prog w) ((lawA dp un gd).deeper (envOfC (ofString "law") cs L a (.ref 543))) (execs body (envOfC (ofString "law") cs L a (.ref 543))) P (fun e s'=>wpAny (model PySem.Challenge.rw_ok0063_01.prog w) ((lawA dp un gd).deeper (envOfC (ofString "law") cs L a (.ref 543))) (leaving (envOfC (ofString "law") cs L a (.ref 543)) e) (fun _ s''=>R (.error e) s'') (fun e' s''=>R (.error e') s'') s') s
end
section
noncomputable def P_LapJ_mono (w:World) (L I:Nat) (oI:Obj) (A:Ad) (dl bl ow sp:Addr) (lim lim2:Nat) (m:Str→Option Value) (news:Led) : Prop:=∀ (J:LapJ w L I oI A dl bl ow sp lim m news) (h:lim≤lim2),LapJ w L I oI A dl bl ow sp lim2 m news
end
section
noncomputable def P_lap (w:World) (dp un:Nat) (gd:Option (List Code)) (a:Addr) (A₀:Around) (base:Heap) (p:Program) (loose:List Str) (mean:ExcName→Option Value) (mg mb:Str→Option Value) (L I:Nat) (oI:Obj) (A:Ad) (s:Shared) (R:Result→Shared→Prop) (P:Flow→Shared→Prop) (dl bl ow sp:Addr) (h₀:Heap) (news:Led) (lim:Nat) (vl:Value) (body:List PySem.Stmt) (cs:Scope) (m:Str→Option Value) : Prop:=∀ (hb:lapD=some body) (XB:(Mine.hd.heap_1 w.params).In base) (TB:Top p loose mean mg mb base) (C1:CodeHd base 531 529) (C2:CodeHd base 543 541) (hc:lawD.map (·.1)=some cs) (hd:dp+40<recursionLimit) (hu:un+8 * 40<cLine) (G:LG w p loose mean mg mb A₀ base h₀) (F:Fr h₀ L s.heap (fun y=>if y=ofString "lap" then some vl else m y)) (N0:News h₀ L s.heap ((I,oI)::news)) (J:LapJ w L I oI A dl bl ow sp lim m news) (hl7:lim≤700) (next:∀ h₀' h' tk' m' news',LG w p loose mean mg mb A₀ base h₀'→Fr h₀' L h' m'→News h₀' L h' ((I,oI)::news')→LapJ w L I oI A dl bl ow sp (lim+18) m' news'→P .next { s with heap:=h',toks:=tk' }),wpAny (model PySem.Challenge.rw_ok0063_01.prog w) ((lawA dp un gd).deeper (envOfC (ofString "law") cs L a (.ref 543))) (execs body (envOfC (ofString "law") cs L a (.ref 543))) P (fun e s'=>wpAny (model PySem.Challenge.rw_ok0063_01.prog w) ((lawA dp un gd).deeper (envOfC (ofString "law") cs L a (.ref 543))) (leaving (envOfC (ofString "law") cs L a (.ref 543)) e) (fun _ s''=>R (.error e) s'') (fun e' s''=>R (.error e') s'') s') s
end
section
open PyProof.V PyProof.Rows.LCg
noncomputable def P_compS (prog:Program) (w:World) (E:Value→Shared→Prop) (s:Shared) (env:Env) (h₀:Heap) (L:Addr) (elt iter:PySem.Expr) (pa:Pos) (scope:Scope) (cl:List (Prod Str Addr)) (pos:Pos) (m:Str→Option Value) (news:Led) (RR:Value→Addr→Result→Shared→Prop) (I:Addr) (fp wr:List Addr) (n:Nat) (Md:Nat→Value→Heap→Prop) (Lo:Nat) (J:Nat→List Value→Led→Prop) (A:Around) (a:Str) (P:Nat→Value→Heap→Prop) (St:Nat→Heap→Prop) (xy:Nat→Value→Prop) : Prop:=∀ (W:KTurns prog w A (.Name a pa) I fp wr n P Md St) (hh:A.handled=none) (hP:∀ i v h,P i v h→xy i v) (hself:∀ (s':Shared) (E':Value→Shared→Prop) (Q':Value→Shared→Prop),St 0 s'.heap→Q' (.ref I) s'→wpAny (model prog w) A (pyIter (.ref I)) Q' E' s') (hLf:L ∉ fp) (hfp:∀ b∈fp,@LT.lt Nat _ b s.heap.objs.size) (hfp0:∀ b∈fp,h₀.get? b=none) (hwr:∀ b∈wr,@LE.le Nat _ Lo b∧@LT.lt Nat _ b s.heap.objs.size) (hLo:Lo≤s.heap.objs.size) (hlo:∀ p∈news,@LT.lt Nat _ p.1 Lo) (hst:St 0 s.heap) (hz:n≤sizeLine) (F:Fr h₀ L s.heap m) (N:News h₀ L s.heap news) (hcell:∀ y∈scope.names,y.2≠.cell) (hkind:scope.kind=.function) (hxa:scope.names.lookup a=some .local) (J0:J 0 [] news) (step:∀ i x zs C oC D m₂ h tk nw own,i<n→xy i x→J i zs nw→NsObj oC m₂→m₂ a=some x→Fr h₀ L h m→News h₀ L h ((C,oC)::(D,lst zs)::(nw++own))→(∀ p∈nw,@LT.lt Nat _ p.1 Lo∨@LT.lt Nat _ C p.1)→@LE.le Nat _ Lo D→@LT.lt Nat _ D C →
      ∀ (P1:Value→Shared→Prop) (E':Value→Shared→Prop),(∀ v h' tk' nw',Fr h₀ L h' m→News h₀ L h' ((C,oC)::(D,lst zs)::(nw'++own))→(∀ p∈nw',@LT.lt Nat _ p.1 Lo∨@LT.lt Nat _ C p.1)→J (i+1) (zs++[v]) nw'→P1 v { s with heap:=h',toks:=tk' }) →
      wpAny (model prog w) A (eval elt (compEnvC scope cl C env)) P1 E' { s with heap:=h,toks:=tk }) (done:∀ D C zs nw h tk m',J n zs nw→Fr h₀ L h m→News h₀ L h ((D,lst zs)::nw)→(∀ p∈nw,@LT.lt Nat _ p.1 Lo∨@LT.lt Nat _ C p.1)→@LE.le Nat _ Lo D→@LT.lt Nat _ D C→h.Ns C m'→C≠L→h₀.get? C=none→RR (.ref D) C (.ok .next) { s with heap:=h,toks:=tk }),wpAny (model prog w) A (newList []) (fun acc s₃=>wpAny (model prog w) A (newFunctionEnv scope env.globals cl [] env.qual none .none (some env)) (fun cenv s₄ =>
      codeAny (model prog w) A (.compStart (.ListComp elt [⟨.Name a pa,iter,[],0⟩] scope pos) 0 (.ref I) acc { cenv with scope:=relabel scope env }) (RR acc cenv.locals) s₄) E s₃) E s
end
section
open PyProof.V PyProof.Rows.LCg
noncomputable def P_rangeS (prog:Program) (w:World) (E:Value→Shared→Prop) (s:Shared) (env:Env) (h₀:Heap) (L:Addr) (elt iter:PySem.Expr) (pa:Pos) (scope:Scope) (cl:List (Prod Str Addr)) (pos:Pos) (n:Nat) (t0:Tok) (m:Str→Option Value) (news:Led) (Q:Value→Shared→Prop) (A:Around) (a:Str) (k:Int) : Prop:=∀ (hh:A.handled=none) (F:Fr h₀ L s.heap m) (N:News h₀ L s.heap news) (hk:k=(n:Int)) (hz:n≤1000) (hcell:∀ y∈scope.names,y.2≠.cell) (hkind:scope.kind=.function) (hxa:scope.names.lookup a=some .local) (rest:∀ Lo:Nat,(∀ p∈news,p.1<Lo)→∃ J:Nat→List Value→Led→Prop,J 0 [] news ∧
      (∀ i x zs C oC D m₂ h tk nw own,i<n→(∃ t,x=.int (i:Int) t)→J i zs nw→NsObj oC m₂→m₂ a=some x→Fr h₀ L h m→News h₀ L h ((C,oC)::(D,lst zs)::(nw++own))→(∀ p∈nw,@LT.lt Nat _ p.1 Lo∨@LT.lt Nat _ C p.1)→@LE.le Nat _ Lo D→@LT.lt Nat _ D C →
        ∀ (P1:Value→Shared→Prop) (E':Value→Shared→Prop),(∀ v h' tk' nw',Fr h₀ L h' m→News h₀ L h' ((C,oC)::(D,lst zs)::(nw'++own))→(∀ p∈nw',@LT.lt Nat _ p.1 Lo∨@LT.lt Nat _ C p.1)→J (i+1) (zs++[v]) nw'→P1 v { s with heap:=h',toks:=tk' }) →
        wpAny (model prog w) A (eval elt (compEnvC scope cl C env)) P1 E' { s with heap:=h,toks:=tk }) ∧
      ∀ D zs nw h tk,J n zs nw→Fr h₀ L h m→News h₀ L h ((D,lst zs)::nw)→(∀ p∈nw,@LT.lt Nat _ p.1 Lo∨@LT.lt Nat _ D p.1)→@LE.le Nat _ Lo D→Q (.ref D) { s with heap:=h,toks:=tk }),wpAny (model prog w) A (call (.type "range") [.int k t0]) (fun xv s₁=>wpAny (model prog w) A (pyIter xv) (fun it s₂=>wpAny (model prog w) A (newList []) (fun acc s₃ =>
      wpAny (model prog w) A (newFunctionEnv scope env.globals cl [] env.qual none .none (some env)) (fun cenv s₄ =>
        codeAny (model prog w) A (.compStart (.ListComp elt [⟨.Name a pa,iter,[],0⟩] scope pos) 0 it acc { cenv with scope:=relabel scope env }) (compPost (model prog w) A E none Q acc cenv.locals) s₄) E s₃) E s₂) E s₁) E s
end
section
noncomputable def P_law_deck2 (w:World) (sc:Addr) (vs:List Value) (p:Program) (loose:List Str) (mean:ExcName→Option Value) (mg mb:Str→Option Value) (dp un:Nat) (gd:Option (List Code)) (cn:Str) (cs:Scope) (a:Addr) (ccd:Value) (cl:List (Prod Str Addr)) (outer:List Env) (A₀:Around) (base h₀:Heap) (L:Addr) (m:Str→Option Value) (rest:List (Prod Addr Obj)) (s:Shared) (Q E:Value→Shared→Prop) (ns:List Int) : Prop:=∀ (hi:IntsAre vs ns) (hz:ns.length≤63),Below A₀ base outer h₀→Fr h₀ L s.heap m→(Mine.hd.heap_1 w.params).In h₀→News h₀ L s.heap rest→Top p loose mean mg mb h₀→h₀.IsList sc vs.toArray→cs.kind=.function→dp+12<recursionLimit→un+8 * 12<cLine →
    (∀ D ds c ns' h' tk',IntsAre ds ns'→ns'.length≤16→Fr h₀ L h' m→News h₀ L h' ((D,listOf (List.toArray ds) c)::rest)→(∀ p∈rest,@LT.lt Nat _ p.1 D)→Q (.ref D) { s with heap:=h',toks:=tk' }) →
    wpAny (model PySem.Challenge.rw_ok0063_01.prog w) (ktrTop dp un gd cn cs L a ccd cl outer) (call (.ref 513) [.ref sc]) Q E s
end
section
noncomputable def P_ins0 (w:World) (A:Ad) (home:Int→Int) (j size point place:Int) (mark:Value) (lim:Nat) (lc:Addr) (cs_:Array Value) (nc:Nat) (t9:Tok) (G:Led) : Prop:=∀ (ok:A.Ok) (hj:j∈sides) (hl:lim≤800) (hB:BfOk w A [] home j size point mark lim G) (hlc : @LT.lt Nat _ (A.ls j) lc) (hp:1≤place) (hp2:place≤size+1) (hcs:cs_.size≤10),Spec w 501 [.ref (A.b j),.int place t9,.ref lc] 8 ((lc,listOf cs_ nc)::G) (A.bAd j) fun v led=>v=.none∧∃ l',led=(lc,listOf cs_ nc)::l'∧BfOk w A [] home j (size+cs_.size) (if point > place then point+cs_.size else point) mark (lim+18) l'
end
section
noncomputable def P_turn_end (w:World) (A:Ad) (h₀ h':Heap) (L I D dl bl:Addr) (oI oD:Obj) (l9 GK Tb:Led) (dv:List Value) (dn:List Int) (nd nb:Nat) (o1 o2 o3 o4 o5 o6 o7 o8:Obj) (m:Str→Option Value) (v7:Option Value) (sj sk:Int) (i:Nat) (j k:Int) : Prop:=∀ (ok:A.Ok) (hjk:(j=0∧k=1)∨(j=1∧k=0)) (N9:News h₀ L h' ((D,oD)::(l9++((dl,listOf (List.toArray dv) nd)::(I,oI)::(L+1+1+1+1+1+1+1+1,o8)::(L+1+1+1+1+1+1+1,o7)::(L+1+1+1+1+1+1,o6)::(L+1+1+1+1+1,o5)::(L+1+1+1+1,o4)::(L+1+1+1,o3)::(L+1+1,o2)::(L+1,o1)::(bl,listOf #[.ref (A.b 0),.ref (A.b 1)] nb)::(GK++Tb))))) (di:IntsAre dv dn) (dz:dn.length≤20) (c7:o7.data=.cell v7) (h1:0≤sj∧sj≤10 * ((i+1:Nat) : Int)) (h2:0≤sk∧sk≤10 * ((i+1:Nat) : Int)) (hj:BfOk w A [] (fun _=>-1) j sj 1 .none (26+18 * (i+1)) l9) (hk:BfOk w A [] (fun _=>-1) k sk 1 .none (26+18 * (i+1)) GK) (hdl : @LT.lt Nat _ (L+8) dl) (hdI : @LT.lt Nat _ dl I) (hbl : @LT.lt Nat _ (A.ls 1) bl) (hbI : @LT.lt Nat _ bl I) (hTb:∀ q∈Tb,@LT.lt Nat _ q.1 L),∃ news',News h₀ L h' ((I,oI)::news')∧(∀ p∈news',@LT.lt Nat _ p.1 I∨@LT.lt Nat _ I p.1)∧((fun (i:Nat) (m':Str→Option Value) (n:Led)=>m'=m∧∃ (G:Int→Led) (sz:Int→Int) (dv:List Value) (dn:List Int) (nd:Nat) (o7:Obj),n=(dl,listOf (List.toArray dv) nd)::(L+1+1+1+1+1+1+1+1,o8)::(L+1+1+1+1+1+1+1,o7)::(L+1+1+1+1+1+1,o6)::(L+1+1+1+1+1,o5)::(L+1+1+1+1,o4)::(L+1+1+1,o3)::(L+1+1,o2)::(L+1,o1)::(bl,listOf #[.ref (A.b 0),.ref (A.b 1)] nb)::(G 0++(G 1++Tb))∧IntsAre dv dn∧dn.length≤20∧(∃ v,o7.data=.cell v)∧∀ j∈sides,0≤sz j∧sz j≤10 * i∧BfOk w A [] (fun _=>-1) j (sz j) 1 .none (26+18 * i) (G j)) (i+1) m news'∧(bl,listOf #[.ref (A.b 0),.ref (A.b 1)] nb)∈news')
end
section
noncomputable def P_loop0 (w:World) (dp un:Nat) (gd:Option (List Code)) (a:Addr) (A₀:Around) (base:Heap) (p:Program) (loose:List Str) (mean:ExcName→Option Value) (mg mb:Str→Option Value) (L:Addr) (s:Shared) (R:Result→Shared→Prop) (P:Flow→Shared→Prop) (A:Ad) (dl bl:Addr) (nb nd:Nat) (G:Int→Led) (Tb:Led) (dv:List Value) (dn:List Int) (o1 o2 o3 o4 o5 o6 o7 o8:Obj) (v7:Option Value) (st:PySem.Stmt) (cs:Scope) (h₀:Heap) (m:Str→Option Value) : Prop:=∀ (hb:for0D=some st) (hc:lawD.map (·.1)=some cs) (hd:dp+40<recursionLimit) (hu:un+8 * 40<cLine) (B:Below A₀ base [] h₀) (X:(Mine.hd.heap_1 w.params).In h₀) (T:Top p loose mean mg mb h₀) (ok:A.Ok) (F:Fr h₀ L s.heap m) (hm:m (ofString "deck")=some (.ref dl)) (N:News h₀ L s.heap ((dl,listOf (List.toArray dv) nd)::(L+1+1+1+1+1+1+1+1,o8)::(L+1+1+1+1+1+1+1,o7)::(L+1+1+1+1+1+1,o6)::(L+1+1+1+1+1,o5)::(L+1+1+1+1,o4)::(L+1+1+1,o3)::(L+1+1,o2)::(L+1,o1)::(bl,listOf #[.ref (A.b 0),.ref (A.b 1)] nb)::(G 0++(G 1++Tb)))) (di:IntsAre dv dn) (dz:dn.length≤20) (c6:o6.data=.cell (some (.ref bl))) (c7:o7.data=.cell v7) (hG:∀ j∈sides,BfOk w A [] (fun _=>-1) j 0 1 .none 26 (G j)) (hdl : @LT.lt Nat _ (L+8) dl) (hdb : @LT.lt Nat _ dl (A.bd 0)) (hbl : @LT.lt Nat _ (A.ls 1) bl) (hTb:∀ q∈Tb,@LT.lt Nat _ q.1 L) (next:∀ h' tk',Fr h₀ L h' m→(∃ news',News h₀ L h' news'∧(fun (i:Nat) (m':Str→Option Value) (n:Led)=>m'=m∧∃ (G:Int→Led) (sz:Int→Int) (dv:List Value) (dn:List Int) (nd:Nat) (o7:Obj),n=(dl,listOf (List.toArray dv) nd)::(L+1+1+1+1+1+1+1+1,o8)::(L+1+1+1+1+1+1+1,o7)::(L+1+1+1+1+1+1,o6)::(L+1+1+1+1+1,o5)::(L+1+1+1+1,o4)::(L+1+1+1,o3)::(L+1+1,o2)::(L+1,o1)::(bl,listOf #[.ref (A.b 0),.ref (A.b 1)] nb)::(G 0++(G 1++Tb))∧IntsAre dv dn∧dn.length≤20∧(∃ v,o7.data=.cell v)∧∀ j∈sides,0≤sz j∧sz j≤10 * i∧BfOk w A [] (fun _=>-1) j (sz j) 1 .none (26+18 * i) (G j)) 2 m news')→P .next { s with heap:=h',toks:=tk' }),wpAny (model PySem.Challenge.rw_ok0063_01.prog w) ((lawA dp un gd).deeper (envOfC (ofString "law") cs L a (.ref 543))) (exec st (envOfC (ofString "law") cs L a (.ref 543))) P (fun e s'=>wpAny (model PySem.Challenge.rw_ok0063_01.prog w) ((lawA dp un gd).deeper (envOfC (ofString "law") cs L a (.ref 543))) (leaving (envOfC (ofString "law") cs L a (.ref 543)) e) (fun _ s''=>R (.error e) s'') (fun e' s''=>R (.error e') s'') s') s
end
section
open PyProof.V PyProof.Rows.LCg
noncomputable def P_mm_end (w:World) (h₀ h':Heap) (L D d:Addr) (m:Str→Option Value) (oC:Obj) (zs:List Value) (nw own news:Led) (s:Shared) (P1:Value→Shared→Prop) (Lo:Nat) (u1 u2 u3 u4 u5 u6:Tok) (tk:Nat) (C x:Addr) (i:Nat) : Prop:=∀ (f1:∀ v h' tk' nw',Fr h₀ L h' m→News h₀ L h' ((C,oC)::(D,LCg.lst zs)::(nw'++own))→(∀ p∈nw',@LT.lt Nat _ p.1 Lo∨@LT.lt Nat _ C p.1)→JM w news Lo (i+1) (zs++[v]) nw'→P1 v { s with heap:=h',toks:=tk' }) (hJ:JM w news Lo i zs nw) (hnw:∀ p∈nw,@LT.lt Nat _ p.1 Lo∨@LT.lt Nat _ C p.1) (hD:Lo≤D) (hDC : @LT.lt Nat _ D C) (F:Fr h₀ L h' m) (N:News h₀ L h' ([(x,instObj 254 d),(d,mkD w u1 u2 u3 u4 (.int (i:Int) u5) .none (.int 0 u6))]++((C,oC)::(D,LCg.lst zs)::(nw++own)))) (l1:∀ p∈(C,oC)::(D,LCg.lst zs)::(nw++own),p.1<d) (l2 : @LT.lt Nat _ d x),P1 (.ref x) { s with heap:=h',toks:=tk }
end
section
open PyProof.V PyProof.Rows.LCg
noncomputable def P_bf_ids (w:World) (A0:Ad) (ma md:Int→Addr) (j:Int) (lim:Nat) (sz:Int) (G:Led) : Prop:=∀ (hj:j∈sides) (hB:BfOk w A0 [] (fun _=>-1) j sz 1 .none lim G),BfOk w { A0 with ma:=ma,md:=md } ids (fun _=>-1) j sz 1 .none lim G
end
section
open PyProof.V PyProof.Rows.LCg
noncomputable def P_mk_state (w:World) (A0:Ad) (h₀ h:Heap) (L D:Addr) (G:Int→Led) (sz:Int→Int) (nw news:Led) (Lo:Nat) (zs:List Value) : Prop:=∀ (ok0:A0.Ok) (hG:∀ j∈sides,BfOk w A0 [] (fun _=>-1) j (sz j) 1 .none 62 (G j)) (hGn:∀ j∈sides,∀ q∈G j,q∈news) (hJ:JM w news Lo 4 zs nw) (N:News h₀ L h ((D,LCg.lst zs)::nw)) (hLo : @LT.lt Nat _ (A0.ls 1) Lo) (hnw:∀ p∈nw,@LT.lt Nat _ p.1 Lo∨@LT.lt Nat _ D p.1),∃ (A:Ad) (S:Led),A.Ok∧A.b=A0.b∧St w A { home:=fun _=>-1,pos:=fun _=>0,size:=sz,point:=fun _=>1,marked:=false,lim:=62:Sg } S∧News h₀ L h ((D,listOf #[.ref (A.ma 0),.ref (A.ma 1),.ref (A.ma 2),.ref (A.ma 3)] 4)::(S++news))∧∀ a∈A.all,(@LE.le Nat _ (A0.bd 0) a∧@LE.le Nat _ a (A0.ls 1))∨@LT.lt Nat _ D a
end
section
open PyProof.V PyProof.Rows.LCg
noncomputable def P_mk_bufs (w:World) (b0 bd0 td0 c0 k0 kd0 r0 ls0:Addr) (T0a0 T1a0 T2a0 T3a0 T4a0 T5a0 T6a0 T7a0 T8a0 T9a0 T10a0 T11a0 T12a0 T13a0 T14a0 T15a0 T16a0 T17a0 T18a0 T19a0:Tok) (vn0 vm0 ct0 st0:Value) (tp0 tb0 tz0 u10 g10 g20 g30 g40 g50 g60 g70 tr0:Tok) (n0:Nat) (its0:Array Value) (ob0:Obj) (b1 bd1 td1 c1 k1 kd1 r1 ls1:Addr) (T0a1 T1a1 T2a1 T3a1 T4a1 T5a1 T6a1 T7a1 T8a1 T9a1 T10a1 T11a1 T12a1 T13a1 T14a1 T15a1 T16a1 T17a1 T18a1 T19a1:Tok) (vn1 vm1 ct1 st1:Value) (tp1 tb1 tz1 u11 g11 g21 g31 g41 g51 g61 g71 tr1:Tok) (n1:Nat) (its1:Array Value) (ob1:Obj) (t0 t1:Addr) : Prop:=∀ (ord0:(@LT.lt Nat _ bd0 b0)∧(@LT.lt Nat _ b0 td0)∧(@LT.lt Nat _ td0 t0)∧(@LT.lt Nat _ t0 c0)∧(@LT.lt Nat _ c0 kd0)∧(@LT.lt Nat _ kd0 k0)∧(@LT.lt Nat _ k0 r0)∧(@LT.lt Nat _ r0 ls0)) (ord1:(@LT.lt Nat _ bd1 b1)∧(@LT.lt Nat _ b1 td1)∧(@LT.lt Nat _ td1 t1)∧(@LT.lt Nat _ t1 c1)∧(@LT.lt Nat _ c1 kd1)∧(@LT.lt Nat _ kd1 k1)∧(@LT.lt Nat _ k1 r1)∧(@LT.lt Nat _ r1 ls1)) (h01 : @LT.lt Nat _ ls0 bd1) (sz0:its0.size=8) (sz1:its1.size=8) (rows0:IsRows w ob0 []) (rows1:IsRows w ob1 []) (low0:(r0 == sysModules)=false) (low1:(r1 == sysModules)=false),∃ (A:Ad) (G:Int→Led),A.Ok∧A.b 0=b0∧A.b 1=b1∧A.bd 0=bd0∧A.ls 1=ls1∧(∀ j∈sides,BfOk w A [] (fun _=>-1) j 0 1 .none 26 (G j))∧(∀ q∈G 0,q∈[(ls0,listOf #[] 0),(k0,instObj 322 kd0),(kd0,rowsD w tr0 r0),(r0,ob0),(t0,instObj 177 td0),(td0,gapD w g10 g20 g30 g40 (.int 8 g50) c0 (.int 0 g60) (.int 8 g70)),(c0,listOf its0 n0),(b0,instObj 428 bd0),(bd0,bufD w (tok20 [T0a0,T1a0,T2a0,T3a0,T4a0,T5a0,T6a0,T7a0,T8a0,T9a0,T10a0,T11a0,T12a0,T13a0,T14a0,T15a0,T16a0,T17a0,T18a0,T19a0]) vn0 vm0 t0 k0 (.int 1 tp0) (.int 1 tb0) (.int 1 tz0) .none (.int 1 u10) ct0 st0 ls0)])∧∀ q∈G 1,q∈[(ls1,listOf #[] 0),(k1,instObj 322 kd1),(kd1,rowsD w tr1 r1),(r1,ob1),(t1,instObj 177 td1),(td1,gapD w g11 g21 g31 g41 (.int 8 g51) c1 (.int 0 g61) (.int 8 g71)),(c1,listOf its1 n1),(b1,instObj 428 bd1),(bd1,bufD w (tok20 [T0a1,T1a1,T2a1,T3a1,T4a1,T5a1,T6a1,T7a1,T8a1,T9a1,T10a1,T11a1,T12a1,T13a1,T14a1,T15a1,T16a1,T17a1,T18a1,T19a1]) vn1 vm1 t1 k1 (.int 1 tp1) (.int 1 tb1) (.int 1 tz1) .none (.int 1 u11) ct1 st1 ls1)]
end
section
noncomputable def P_to_led0 (h₀ h:Heap) (L bl dl:Addr) (X Y:Obj) (M0 M1 Tb:Led) (G:Int→Led) (o1 o2 o3 o4 o5 o6 o7 o8:Obj) : Prop:=∀ (hG0:∀ q∈G 0,q∈M0) (hG1:∀ q∈G 1,q∈M1) (N:News h₀ L h ((bl,X)::(M1++(M0++((dl,Y)::(L+1+1+1+1+1+1+1+1,o8)::(L+1+1+1+1+1+1+1,o7)::(L+1+1+1+1+1+1,o6)::(L+1+1+1+1+1,o5)::(L+1+1+1+1,o4)::(L+1+1+1,o3)::(L+1+1,o2)::(L+1,o1)::Tb))))),News h₀ L h ((dl,Y)::(L+1+1+1+1+1+1+1+1,o8)::(L+1+1+1+1+1+1+1,o7)::(L+1+1+1+1+1+1,o6)::(L+1+1+1+1+1,o5)::(L+1+1+1+1,o4)::(L+1+1+1,o3)::(L+1+1,o2)::(L+1,o1)::(bl,X)::(G 0++(G 1++Tb)))
end
section
noncomputable def P_to_led1 (h₀ h:Heap) (L bl dl D:Addr) (X Y:Obj) (S Tb:Led) (G:Int→Led) (A A2:Ad) (nb:Nat) (o1 o2 o3 o4 o5 o6 o7 o8:Obj) : Prop:=∀ (eb:A2.b=A.b) (N:News h₀ L h ((D,X)::(S++((dl,Y)::(L+1+1+1+1+1+1+1+1,o8)::(L+1+1+1+1+1+1+1,o7)::(L+1+1+1+1+1+1,o6)::(L+1+1+1+1+1,o5)::(L+1+1+1+1,o4)::(L+1+1+1,o3)::(L+1+1,o2)::(L+1,o1)::(bl,listOf #[.ref (A.b 0),.ref (A.b 1)] nb)::(G 0++(G 1++Tb)))))),News h₀ L h ((D,X)::(dl,Y)::(L+1+1+1+1+1+1+1+1,o8)::(L+1+1+1+1+1+1+1,o7)::(L+1+1+1+1+1+1,o6)::(L+1+1+1+1+1,o5)::(L+1+1+1+1,o4)::(L+1+1+1,o3)::(L+1+1,o2)::(L+1,o1)::(bl,listOf #[.ref (A2.b 0),.ref (A2.b 1)] nb)::(S++Tb))
end
section
noncomputable def P_lap_start (w:World) (L:Nat) (A:Ad) (sz:Int→Int) (S:Led) (dl bl ow sp hl l1 tp tq bd0 ls1:Addr) (oq ol:Obj) (h₀ h:Heap) (m':Str→Option Value) (dv:List Value) (dn:List Int) (nd nb no ns nh:Nat) (s0 s1 b b':Tok) (o1 o2 o3 o4 o5 o6 o7 o8:Obj) : Prop:=∀ (ok:A.Ok) (hS:St w A ({ home:=fun _=>-1,pos:=fun _=>0,size:=sz,point:=fun _=>1,marked:=false,lim:=62 } : Sg) S) (N:News h₀ L h ((tq,oq)::(sp,listOf #[.int 1 s0,.int 1 s1] ns)::(hl,listOf #[.ref tp,.ref tp,.ref tp,.ref tp] nh)::(l1,ol)::(tp,tupO (-1) 0 b b')::(ow,listOf #[.ref (A.ma 0),.ref (A.ma 1),.ref (A.ma 2),.ref (A.ma 3)] no)::(dl,listOf (List.toArray dv) nd)::(L+1+1+1+1+1+1+1+1,o8)::(L+1+1+1+1+1+1+1,o7)::(L+1+1+1+1+1+1,o6)::(L+1+1+1+1+1,o5)::(L+1+1+1+1,o4)::(L+1+1+1,o3)::(L+1+1,o2)::(L+1,o1)::(bl,listOf #[.ref (A.b 0),.ref (A.b 1)] nb)::(S++[(529,tabObj #[]),(541,tabObj #[])]))) (x9:Fr h₀ L h m') (di:IntsAre dv dn) (dz:dn.length≤20) (hsz:∀ j∈sides,0≤sz j∧sz j≤20) (hdl : @LT.lt Nat _ (L+8) dl) (hdb : @LT.lt Nat _ dl bd0) (hbl : @LT.lt Nat _ ls1 bl) (hbd : @LT.lt Nat _ bd0 ls1) (hbo : @LT.lt Nat _ bl ow) (ltp : @LT.lt Nat _ ow tp∧@LT.lt Nat _ dl tp∧@LT.lt Nat _ (L+1+1+1+1+1+1+1+1) tp∧@LT.lt Nat _ (L+1+1+1+1+1+1+1) tp∧@LT.lt Nat _ (L+1+1+1+1+1+1) tp∧@LT.lt Nat _ (L+1+1+1+1+1) tp∧@LT.lt Nat _ (L+1+1+1+1) tp∧@LT.lt Nat _ (L+1+1+1) tp∧@LT.lt Nat _ (L+1+1) tp∧@LT.lt Nat _ (L+1) tp∧@LT.lt Nat _ bl tp∧AllLt tp (S++[(529,tabObj #[]),(541,tabObj #[])])) (h1 : @LT.lt Nat _ tp l1) (h2 : @LT.lt Nat _ l1 hl) (h3 : @LT.lt Nat _ hl sp) (hA:∀ a∈A.all,(@LE.le Nat _ bd0 a∧@LE.le Nat _ a ls1)∨@LT.lt Nat _ ow a) (lt:(@LT.lt Nat _ 529 L)∧(@LT.lt Nat _ 541 L)) (e1:m' (ofString "deck")=some (.ref dl)) (e2:m' (ofString "homes")=some (.ref hl)) (e3:m' (ofString "spots")=some (.ref sp)) (cs:(Cells6 o1 o2 o3 o4 o5 o7)) (c6:o6.data=.cell (some (.ref bl))) (c8:o8.data=.cell (some (.ref ow))),News h₀ L h ((L+1+1+1+1+1+1+1+1,o8)::(L+1+1+1+1+1+1+1,o7)::(L+1+1+1+1+1+1,o6)::(L+1+1+1+1+1,o5)::(L+1+1+1+1,o4)::(L+1+1+1,o3)::(L+1+1,o2)::(L+1,o1)::(dl,listOf (List.toArray dv) nd)::(bl,listOf #[.ref (A.b 0),.ref (A.b 1)] nb)::(ow,listOf #[.ref (A.ma 0),.ref (A.ma 1),.ref (A.ma 2),.ref (A.ma 3)] no)::(sp,listOf #[.int (({ home:=fun _=>-1,pos:=fun _=>0,size:=sz,point:=fun _=>1,marked:=false,lim:=62 } : Sg).point 0) s0,.int (({ home:=fun _=>-1,pos:=fun _=>0,size:=sz,point:=fun _=>1,marked:=false,lim:=62 } : Sg).point 1) s1] ns)::(hl,listOf #[.ref ((fun _=>tp:Int→Addr) 0),.ref ((fun _=>tp:Int→Addr) 1),.ref ((fun _=>tp:Int→Addr) 2),.ref ((fun _=>tp:Int→Addr) 3)] nh)::((fun _=>tp:Int→Addr) 0,tupO (({ home:=fun _=>-1,pos:=fun _=>0,size:=sz,point:=fun _=>1,marked:=false,lim:=62 } : Sg).home 0) (({ home:=fun _=>-1,pos:=fun _=>0,size:=sz,point:=fun _=>1,marked:=false,lim:=62 } : Sg).pos 0) ((fun _=>b:Int→Tok) 0) ((fun _=>b':Int→Tok) 0))::((fun _=>tp:Int→Addr) 1,tupO (({ home:=fun _=>-1,pos:=fun _=>0,size:=sz,point:=fun _=>1,marked:=false,lim:=62 } : Sg).home 1) (({ home:=fun _=>-1,pos:=fun _=>0,size:=sz,point:=fun _=>1,marked:=false,lim:=62 } : Sg).pos 1) ((fun _=>b:Int→Tok) 1) ((fun _=>b':Int→Tok) 1))::((fun _=>tp:Int→Addr) 2,tupO (({ home:=fun _=>-1,pos:=fun _=>0,size:=sz,point:=fun _=>1,marked:=false,lim:=62 } : Sg).home 2) (({ home:=fun _=>-1,pos:=fun _=>0,size:=sz,point:=fun _=>1,marked:=false,lim:=62 } : Sg).pos 2) ((fun _=>b:Int→Tok) 2) ((fun _=>b':Int→Tok) 2))::((fun _=>tp:Int→Addr) 3,tupO (({ home:=fun _=>-1,pos:=fun _=>0,size:=sz,point:=fun _=>1,marked:=false,lim:=62 } : Sg).home 3) (({ home:=fun _=>-1,pos:=fun _=>0,size:=sz,point:=fun _=>1,marked:=false,lim:=62 } : Sg).pos 3) ((fun _=>b:Int→Tok) 3) ((fun _=>b':Int→Tok) 3))::(S++([(529,tabObj #[])]++[(541,tabObj #[])])))∧∀ (I:Nat) (oI:Obj),(∀ p∈(L+1+1+1+1+1+1+1+1,o8)::(L+1+1+1+1+1+1+1,o7)::(L+1+1+1+1+1+1,o6)::(L+1+1+1+1+1,o5)::(L+1+1+1+1,o4)::(L+1+1+1,o3)::(L+1+1,o2)::(L+1,o1)::(dl,listOf (List.toArray dv) nd)::(bl,listOf #[.ref (A.b 0),.ref (A.b 1)] nb)::(ow,listOf #[.ref (A.ma 0),.ref (A.ma 1),.ref (A.ma 2),.ref (A.ma 3)] no)::(sp,listOf #[.int (({ home:=fun _=>-1,pos:=fun _=>0,size:=sz,point:=fun _=>1,marked:=false,lim:=62 } : Sg).point 0) s0,.int (({ home:=fun _=>-1,pos:=fun _=>0,size:=sz,point:=fun _=>1,marked:=false,lim:=62 } : Sg).point 1) s1] ns)::(hl,listOf #[.ref ((fun _=>tp:Int→Addr) 0),.ref ((fun _=>tp:Int→Addr) 1),.ref ((fun _=>tp:Int→Addr) 2),.ref ((fun _=>tp:Int→Addr) 3)] nh)::((fun _=>tp:Int→Addr) 0,tupO (({ home:=fun _=>-1,pos:=fun _=>0,size:=sz,point:=fun _=>1,marked:=false,lim:=62 } : Sg).home 0) (({ home:=fun _=>-1,pos:=fun _=>0,size:=sz,point:=fun _=>1,marked:=false,lim:=62 } : Sg).pos 0) ((fun _=>b:Int→Tok) 0) ((fun _=>b':Int→Tok) 0))::((fun _=>tp:Int→Addr) 1,tupO (({ home:=fun _=>-1,pos:=fun _=>0,size:=sz,point:=fun _=>1,marked:=false,lim:=62 } : Sg).home 1) (({ home:=fun _=>-1,pos:=fun _=>0,size:=sz,point:=fun _=>1,marked:=false,lim:=62 } : Sg).pos 1) ((fun _=>b:Int→Tok) 1) ((fun _=>b':Int→Tok) 1))::((fun _=>tp:Int→Addr) 2,tupO (({ home:=fun _=>-1,pos:=fun _=>0,size:=sz,point:=fun _=>1,marked:=false,lim:=62 } : Sg).home 2) (({ home:=fun _=>-1,pos:=fun _=>0,size:=sz,point:=fun _=>1,marked:=false,lim:=62 } : Sg).pos 2) ((fun _=>b:Int→Tok) 2) ((fun _=>b':Int→Tok) 2))::((fun _=>tp:Int→Addr) 3,tupO (({ home:=fun _=>-1,pos:=fun _=>0,size:=sz,point:=fun _=>1,marked:=false,lim:=62 } : Sg).home 3) (({ home:=fun _=>-1,pos:=fun _=>0,size:=sz,point:=fun _=>1,marked:=false,lim:=62 } : Sg).pos 3) ((fun _=>b:Int→Tok) 3) ((fun _=>b':Int→Tok) 3))::(S++([(529,tabObj #[])]++[(541,tabObj #[])])),@LT.lt Nat _ p.1 I)→LapJ w L I oI A dl bl ow sp 62 m' ((L+1+1+1+1+1+1+1+1,o8)::(L+1+1+1+1+1+1+1,o7)::(L+1+1+1+1+1+1,o6)::(L+1+1+1+1+1,o5)::(L+1+1+1+1,o4)::(L+1+1+1,o3)::(L+1+1,o2)::(L+1,o1)::(dl,listOf (List.toArray dv) nd)::(bl,listOf #[.ref (A.b 0),.ref (A.b 1)] nb)::(ow,listOf #[.ref (A.ma 0),.ref (A.ma 1),.ref (A.ma 2),.ref (A.ma 3)] no)::(sp,listOf #[.int (({ home:=fun _=>-1,pos:=fun _=>0,size:=sz,point:=fun _=>1,marked:=false,lim:=62 } : Sg).point 0) s0,.int (({ home:=fun _=>-1,pos:=fun _=>0,size:=sz,point:=fun _=>1,marked:=false,lim:=62 } : Sg).point 1) s1] ns)::(hl,listOf #[.ref ((fun _=>tp:Int→Addr) 0),.ref ((fun _=>tp:Int→Addr) 1),.ref ((fun _=>tp:Int→Addr) 2),.ref ((fun _=>tp:Int→Addr) 3)] nh)::((fun _=>tp:Int→Addr) 0,tupO (({ home:=fun _=>-1,pos:=fun _=>0,size:=sz,point:=fun _=>1,marked:=false,lim:=62 } : Sg).home 0) (({ home:=fun _=>-1,pos:=fun _=>0,size:=sz,point:=fun _=>1,marked:=false,lim:=62 } : Sg).pos 0) ((fun _=>b:Int→Tok) 0) ((fun _=>b':Int→Tok) 0))::((fun _=>tp:Int→Addr) 1,tupO (({ home:=fun _=>-1,pos:=fun _=>0,size:=sz,point:=fun _=>1,marked:=false,lim:=62 } : Sg).home 1) (({ home:=fun _=>-1,pos:=fun _=>0,size:=sz,point:=fun _=>1,marked:=false,lim:=62 } : Sg).pos 1) ((fun _=>b:Int→Tok) 1) ((fun _=>b':Int→Tok) 1))::((fun _=>tp:Int→Addr) 2,tupO (({ home:=fun _=>-1,pos:=fun _=>0,size:=sz,point:=fun _=>1,marked:=false,lim:=62 } : Sg).home 2) (({ home:=fun _=>-1,pos:=fun _=>0,size:=sz,point:=fun _=>1,marked:=false,lim:=62 } : Sg).pos 2) ((fun _=>b:Int→Tok) 2) ((fun _=>b':Int→Tok) 2))::((fun _=>tp:Int→Addr) 3,tupO (({ home:=fun _=>-1,pos:=fun _=>0,size:=sz,point:=fun _=>1,marked:=false,lim:=62 } : Sg).home 3) (({ home:=fun _=>-1,pos:=fun _=>0,size:=sz,point:=fun _=>1,marked:=false,lim:=62 } : Sg).pos 3) ((fun _=>b:Int→Tok) 3) ((fun _=>b':Int→Tok) 3))::(S++([(529,tabObj #[])]++[(541,tabObj #[])])))
end
section
noncomputable def P_LapJ_any (w:World) (L I:Nat) (oI oI':Obj) (A:Ad) (dl bl ow sp:Addr) (lim:Nat) (m:Str→Option Value) (news:Led) : Prop:=∀ (J:LapJ w L I oI A dl bl ow sp lim m news),LapJ w L I oI' A dl bl ow sp lim m news
end
section
noncomputable def P_LapJ_apart (w:World) (L I:Nat) (oI:Obj) (A:Ad) (dl bl ow sp:Addr) (lim:Nat) (m:Str→Option Value) (news:Led) : Prop:=∀ (J:LapJ w L I oI A dl bl ow sp lim m news),∀ p∈news,@LT.lt Nat _ p.1 I∨@LT.lt Nat _ I p.1
end
section
noncomputable def P_law_rest (w:World) (dp un:Nat) (gd:Option (List Code)) (a:Addr) (A₀:Around) (base:Heap) (p:Program) (loose:List Str) (mean:ExcName→Option Value) (mg mb:Str→Option Value) (L:Addr) (s:Shared) (R:Result→Shared→Prop) (P:Flow→Shared→Prop) (m:Str→Option Value) (A:Ad) (G:Int→Led) (sz:Int→Int) (dl bl:Addr) (nb nd:Nat) (dv:List Value) (dn:List Int) (o1 o2 o3 o4 o5 o6 o7 o8:Obj) (v1 v2 v3 v4 v5 v7 v8:Option Value) (body:List PySem.Stmt) (cs:Scope) : Prop:=∀ (hb:restD3=some body) (hc:lawD.map (·.1)=some cs) (hd:dp+60<recursionLimit) (hu:un+8 * 60<cLine) (XB:(Mine.hd.heap_1 w.params).In base) (TB:Top p loose mean mg mb base) (C1:CodeHd base 531 529) (C2:CodeHd base 543 541) (G0:LG w p loose mean mg mb A₀ base base) (okA:A.Ok) (F:Fr base L s.heap m) (hm:m (ofString "deck")=some (.ref dl)) (N:News base L s.heap ((dl,listOf (List.toArray dv) nd)::(L+1+1+1+1+1+1+1+1,o8)::(L+1+1+1+1+1+1+1,o7)::(L+1+1+1+1+1+1,o6)::(L+1+1+1+1+1,o5)::(L+1+1+1+1,o4)::(L+1+1+1,o3)::(L+1+1,o2)::(L+1,o1)::(bl,listOf #[.ref (A.b 0),.ref (A.b 1)] nb)::(G 0++(G 1++[(529,tabObj #[]),(541,tabObj #[])])))) (di:IntsAre dv dn) (dz:dn.length≤20) (c1:o1.data=.cell v1) (c2:o2.data=.cell v2) (c3:o3.data=.cell v3) (c4:o4.data=.cell v4) (c5:o5.data=.cell v5) (c6:o6.data=.cell (some (.ref bl))) (c7:o7.data=.cell v7) (c8:o8.data=.cell v8) (hG:∀ j∈sides,0≤sz j∧sz j≤20∧BfOk w A [] (fun _=>-1) j (sz j) 1 .none 62 (G j)) (hdl : @LT.lt Nat _ (L+8) dl) (hdb : @LT.lt Nat _ dl (A.bd 0)) (hbl : @LT.lt Nat _ (A.ls 1) bl) (lt:(@LT.lt Nat _ 529 L)∧(@LT.lt Nat _ 541 L)) (ret:∀ h₀' h' tk' m' news' ps1 ps2,LG w p loose mean mg mb A₀ base h₀'→Fr h₀' L h' m'→News h₀' L h' news'→(529,tabObj ps1)∈news'→(541,tabObj ps2)∈news'→P (.ret (.bool true)) { s with heap:=h',toks:=tk' }),wpAny (model PySem.Challenge.rw_ok0063_01.prog w) ((lawA dp un gd).deeper (envOfC (ofString "law") cs L a (.ref 543))) (execs body (envOfC (ofString "law") cs L a (.ref 543))) P (fun e s'=>wpAny (model PySem.Challenge.rw_ok0063_01.prog w) ((lawA dp un gd).deeper (envOfC (ofString "law") cs L a (.ref 543))) (leaving (envOfC (ofString "law") cs L a (.ref 543)) e) (fun _ s''=>R (.error e) s'') (fun e' s''=>R (.error e') s'') s') s
end
section
noncomputable def P_law_all (w:World) (dp un:Nat) (gd:Option (List Code)) (a:Addr) (A₀:Around) (base:Heap) (p:Program) (loose:List Str) (mean:ExcName→Option Value) (mg mb:Str→Option Value) (L:Addr) (s:Shared) (R:Result→Shared→Prop) (P:Flow→Shared→Prop) (m:Str→Option Value) (sc:Addr) (vs:List Value) (ns0:List Int) (o1 o2 o3 o4 o5 o6 o7 o8:Obj) (body:List PySem.Stmt) (cs:Scope) : Prop:=∀ (hb:lawD=some (cs,body)) (hd:dp+60<recursionLimit) (hu:un+8 * 60<cLine) (F:Fr base L s.heap m) (hm:m (ofString "script")=some (.ref sc)) (X:(Mine.hd.heap_1 w.params).In base) (T:Top p loose mean mg mb base) (B:Below A₀ base [] base) (hL:base.IsList sc vs.toArray) (hi:IntsAre vs ns0) (hz:ns0.length≤63) (C1:CodeHd base 531 529) (C2:CodeHd base 543 541) (D:KtsDicts ([] : List Addr) base) (lt:(@LT.lt Nat _ 529 L)∧(@LT.lt Nat _ 541 L)) (N:News base L s.heap ((L+1+1+1+1+1+1+1+1,o8)::(L+1+1+1+1+1+1+1,o7)::(L+1+1+1+1+1+1,o6)::(L+1+1+1+1+1,o5)::(L+1+1+1+1,o4)::(L+1+1+1,o3)::(L+1+1,o2)::(L+1,o1)::[(529,tabObj #[]),(541,tabObj #[])])) (cc1:o1.data=.cell none) (cc2:o2.data=.cell none) (cc3:o3.data=.cell none) (cc4:o4.data=.cell none) (cc5:o5.data=.cell none) (cc6:o6.data=.cell none) (cc7:o7.data=.cell none) (cc8:o8.data=.cell none) (ret:∀ h₀' h' tk' m' news' ps1 ps2,LG w p loose mean mg mb A₀ base h₀'→Fr h₀' L h' m'→News h₀' L h' news'→(529,tabObj ps1)∈news'→(541,tabObj ps2)∈news'→P (.ret (.bool true)) { s with heap:=h',toks:=tk' }),wpAny (model PySem.Challenge.rw_ok0063_01.prog w) ((lawA dp un gd).deeper (envOfC (ofString "law") cs L a (.ref 543))) (execs body (envOfC (ofString "law") cs L a (.ref 543))) P (fun e s'=>wpAny (model PySem.Challenge.rw_ok0063_01.prog w) ((lawA dp un gd).deeper (envOfC (ofString "law") cs L a (.ref 543))) (leaving (envOfC (ofString "law") cs L a (.ref 543)) e) (fun _ s''=>R (.error e) s'') (fun e' s''=>R (.error e') s'') s') s
end
def fam:List (SkU→Prop):=[fun u=>∀ news,P_sl_read (u 0 0) (u 1 0) (u 2 0) (u 3 0) (u 4 0) (u 5 0) (u 6 0) (u 6 1) (u 7 0) (u 8 0) (u 8 1) (u 9 0) (u 10 0) (u 10 1) (u 11 0) (u 11 1) (u 12 0) (u 3 1) news,
  fun u=>∀ Q,P_wp_setSlice (u 0 0) (u 1 0) (u 2 0) (u 3 0) (u 4 0) (u 6 1) (u 9 0) (u 9 1) (u 10 0) (u 10 1) (u 11 0) (u 11 1) (u 6 2) (u 6 3) Q,
  fun u=>∀ news Q,P_sl_store (u 0 0) (u 1 0) (u 2 0) (u 3 0) (u 4 0) (u 5 0) (u 6 0) (u 6 1) (u 7 0) (u 9 0) (u 9 1) (u 10 0) (u 10 1) (u 11 0) (u 11 1) (u 6 3) (u 12 0) (u 12 1) (u 13 0) news Q,
  fun u=>∀ news x y,P_slb_read (u 0 0) (u 1 0) (u 2 0) (u 3 0) (u 4 0) (u 5 0) (u 6 0) (u 6 1) (u 7 0) (u 8 0) (u 8 1) (u 9 0) (u 14 0) (u 14 1) (u 12 0) (u 3 1) news x y,
  fun u=>∀ news x y Q,P_slb_store (u 0 0) (u 1 0) (u 2 0) (u 3 0) (u 4 0) (u 5 0) (u 6 0) (u 6 1) (u 7 0) (u 9 0) (u 9 1) (u 14 0) (u 14 1) (u 6 3) (u 12 0) (u 12 1) (u 13 0) news x y Q,
  fun u=>P_gt_move (SpecU u) (u 1 0) (u 6 4) (u 6 5) (u 6 6) (u 14 2) (u 14 3) (u 14 4) (u 14 5) (u 14 6) (u 14 7) (u 14 8) (u 14 9) (u 9 0) (u 12 0) (u 15 0) (u 15 1) (u 15 2) (u 15 3),
  fun u=>P_gt_widen (SpecU u) (u 1 0) (u 6 4) (u 6 5) (u 6 6) (u 14 2) (u 14 3) (u 14 4) (u 14 5) (u 14 6) (u 14 7) (u 14 8) (u 14 9) (u 9 0) (u 12 0) (u 15 0) (u 15 1) (u 15 2) (u 15 4),
  fun u=>P_gt_insert (SpecU u) (u 1 0) (u 6 4) (u 6 5) (u 6 6) (u 14 2) (u 14 3) (u 14 4) (u 14 5) (u 14 6) (u 14 7) (u 14 8) (u 14 9) (u 9 0) (u 12 0) (u 15 0) (u 15 1) (u 15 2) (u 15 3) (u 6 7) (u 9 2) (u 12 2),
  fun u=>P_gt_codes (SpecU u) (u 1 0) (u 6 4) (u 6 5) (u 6 6) (u 14 2) (u 14 3) (u 14 4) (u 14 5) (u 14 6) (u 14 7) (u 14 8) (u 14 9) (u 14 10) (u 9 0) (u 12 0) (u 15 0) (u 15 1) (u 15 2) (u 15 5) (u 15 6),
  fun u=>P_gt_delete (SpecU u) (u 1 0) (u 6 4) (u 6 5) (u 6 6) (u 14 2) (u 14 3) (u 14 4) (u 14 5) (u 14 6) (u 14 7) (u 14 8) (u 14 9) (u 14 10) (u 9 0) (u 12 0) (u 15 0) (u 15 1) (u 15 2) (u 15 5) (u 15 6),
  fun u=>∀ k,P_mk_put (SpecU u) (u 1 0) (u 6 8) (u 6 9) (u 6 4) (u 6 10) (u 16 0) (u 17 0) (u 14 2) (u 14 3) (u 14 4) (u 14 5) (u 14 6) (u 14 7) (u 14 8) (u 14 10) (u 15 7) (u 15 8) (u 15 9) (u 10 2) k,
  fun u=>∀ k,P_mk_drop (SpecU u) (u 1 0) (u 6 8) (u 6 9) (u 6 4) (u 6 10) (u 16 0) (u 17 0) (u 14 2) (u 14 3) (u 14 4) (u 14 5) (u 14 6) (u 14 7) (u 14 8) (u 15 7) (u 15 8) (u 10 2) (u 10 3) k,
  fun u=>∀ Q A I pos E rest c,P_marks_loop (u 0 0) (u 1 0) (u 2 1) (u 3 2) (u 4 0) (u 18 0) (u 5 0) (u 19 0) (u 19 1) (u 20 0) (u 21 0) (u 22 0) (u 6 11) (u 23 0) (u 24 0) (u 17 0) (u 15 10) (u 7 1) (u 21 1) Q A I pos E rest c,
  fun u=>∀ k st en,P_mk_inserted (SpecU u) (u 1 0) (u 25 0) (u 24 1) (u 21 0) (u 21 2) (u 26 0) (u 6 8) (u 6 9) (u 16 0) (u 17 0) (u 14 2) (u 14 11) (u 14 12) (u 15 10) k st en,
  fun u=>∀ k st en,P_mk_deleted (SpecU u) (u 1 0) (u 25 0) (u 24 1) (u 21 0) (u 21 2) (u 26 0) (u 6 8) (u 6 9) (u 16 0) (u 17 0) (u 14 2) (u 14 11) (u 14 12) (u 15 10) k st en,
  fun u=>∀ l,P_BfOk_adr (u 1 0) (u 25 0) (u 24 1) (u 21 0) (u 15 10) (u 15 11) (u 15 12) (u 10 4) (u 12 3) l,
  fun u=>P_bf_size (SpecU u) (u 1 0) (u 25 0) (u 24 1) (u 21 0) (u 27 0) (u 10 5) (u 10 6) (u 10 7) (u 10 8) (u 10 4) (u 14 13) (u 14 14) (u 14 15) (u 14 11) (u 14 16) (u 14 17) (u 14 18) (u 14 19) (u 14 20) (u 14 21) (u 14 22) (u 14 23) (u 15 13) (u 15 1) (u 15 2) (u 15 10) (u 15 11) (u 15 12) (u 9 0) (u 12 0) (u 12 3) (u 16 0) (u 17 0),
  fun u=>P_bf_goto (SpecU u) (u 1 0) (u 25 0) (u 27 0) (u 10 5) (u 10 6) (u 10 7) (u 10 8) (u 10 4) (u 14 13) (u 14 14) (u 14 15) (u 14 11) (u 14 16) (u 14 17) (u 14 18) (u 14 19) (u 14 20) (u 14 21) (u 14 22) (u 14 23) (u 14 10) (u 15 13) (u 15 1) (u 15 2) (u 15 10) (u 15 11) (u 15 12) (u 15 14) (u 9 0) (u 12 0) (u 16 0),
  fun u=>P_ed_behind (SpecU u) (u 1 0) (u 25 0) (u 27 0) (u 10 5) (u 10 6) (u 10 7) (u 10 8) (u 10 4) (u 14 13) (u 14 14) (u 14 15) (u 14 11) (u 15 13) (u 15 10) (u 15 11) (u 15 12) (u 10 9) (u 10 10) (u 10 11),
  fun u=>P_ed_reached (SpecFU u) (u 1 0) (u 25 0) (u 27 0) (u 10 5) (u 10 6) (u 10 7) (u 10 8) (u 10 4) (u 14 13) (u 14 14) (u 14 15) (u 14 11) (u 14 9) (u 14 10) (u 15 13) (u 15 10) (u 15 11) (u 15 12) (u 15 15) (u 15 16),
  fun u=>P_ed_insert (SpecU u) (u 1 0) (u 25 0) (u 21 0) (u 21 2) (u 26 0) (u 27 0) (u 10 5) (u 10 6) (u 10 7) (u 10 8) (u 10 4) (u 14 13) (u 14 14) (u 14 15) (u 14 11) (u 14 16) (u 14 17) (u 14 18) (u 14 19) (u 14 20) (u 14 21) (u 14 22) (u 14 23) (u 14 10) (u 15 13) (u 15 1) (u 15 2) (u 15 10) (u 15 11) (u 15 12) (u 15 14) (u 9 0) (u 12 0) (u 12 3) (u 16 0) (u 17 0) (u 24 1) (u 6 7) (u 9 2) (u 12 2),
  fun u=>P_ed_delete (SpecU u) (u 1 0) (u 25 0) (u 21 0) (u 21 2) (u 26 0) (u 27 0) (u 10 5) (u 10 6) (u 10 7) (u 10 8) (u 10 4) (u 14 13) (u 14 14) (u 14 15) (u 14 11) (u 14 16) (u 14 17) (u 14 18) (u 14 19) (u 14 20) (u 14 21) (u 14 22) (u 14 23) (u 14 9) (u 14 10) (u 15 13) (u 15 1) (u 15 2) (u 15 10) (u 15 11) (u 15 12) (u 9 0) (u 12 0) (u 12 3) (u 16 0) (u 17 0) (u 24 1) (u 15 17) (u 15 18),
  fun u=>P_sm_noneB (SpecU u) (u 1 0) (u 25 0) (u 27 1) (u 10 12) (u 10 13) (u 10 14) (u 10 15) (u 10 16) (u 10 17) (u 10 18) (u 10 19) (u 10 20) (u 10 21) (u 10 3) (u 14 2) (u 14 3) (u 14 4) (u 14 5) (u 14 6) (u 14 7) (u 14 24) (u 15 7) (u 15 19) (u 15 8) (u 16 1) (u 16 2) (u 16 3) (u 16 4) (u 16 5) (u 17 1),
  fun u=>P_sm_put0 (SpecU u) (u 1 0) (u 25 0) (u 21 0) (u 27 0) (u 10 5) (u 10 6) (u 10 7) (u 10 8) (u 10 4) (u 14 13) (u 14 14) (u 14 15) (u 14 11) (u 14 16) (u 14 17) (u 14 18) (u 14 19) (u 14 20) (u 14 21) (u 14 22) (u 14 23) (u 14 10) (u 15 13) (u 15 1) (u 15 2) (u 15 10) (u 15 11) (u 15 12) (u 15 14) (u 9 0) (u 12 0) (u 12 3) (u 16 0) (u 17 0) (u 14 2) (u 14 3) (u 14 4) (u 14 5) (u 14 6) (u 14 7) (u 15 7) (u 15 8),
  fun u=>P_sm_putS (SpecU u) (u 1 0) (u 25 0) (u 21 0) (u 27 0) (u 10 5) (u 10 6) (u 10 7) (u 10 8) (u 10 4) (u 14 13) (u 14 14) (u 14 15) (u 14 11) (u 14 16) (u 14 17) (u 14 18) (u 14 19) (u 14 20) (u 14 21) (u 14 22) (u 14 23) (u 14 10) (u 15 13) (u 15 1) (u 15 2) (u 15 10) (u 15 11) (u 15 12) (u 15 14) (u 9 0) (u 12 0) (u 12 3) (u 16 0) (u 17 0) (u 14 2) (u 14 3) (u 14 4) (u 14 5) (u 14 6) (u 14 7) (u 15 7) (u 15 8),
  fun u=>P_sm_move (SpecU u) (u 1 0) (u 25 0) (u 21 0) (u 27 0) (u 10 5) (u 10 6) (u 10 7) (u 10 8) (u 10 4) (u 14 13) (u 14 14) (u 14 15) (u 14 11) (u 14 16) (u 14 17) (u 14 18) (u 14 19) (u 14 20) (u 14 21) (u 14 22) (u 14 23) (u 14 10) (u 15 13) (u 15 1) (u 15 2) (u 15 10) (u 15 11) (u 15 12) (u 15 14) (u 9 0) (u 12 0) (u 12 3) (u 16 0) (u 17 0) (u 27 1) (u 10 12) (u 10 13) (u 10 14) (u 10 15) (u 10 16) (u 10 17) (u 10 18) (u 10 19) (u 10 20) (u 10 3) (u 14 2) (u 14 3) (u 14 4) (u 14 5) (u 14 6) (u 14 7) (u 14 24) (u 15 7) (u 15 19) (u 15 8) (u 16 1) (u 16 2) (u 16 3) (u 16 4) (u 16 5) (u 17 1),
  fun u=>P_BfOk_rehome (u 1 0) (u 25 0) (u 24 1) (u 21 0) (u 21 3) (u 15 10) (u 15 11) (u 15 12) (u 10 4) (u 12 3) (u 22 1),
  fun u=>P_st_set_none (u 1 0) (u 25 0) (u 28 0) (u 15 7) (u 10 21),
  fun u=>P_st_set (u 1 0) (u 25 0) (u 28 0) (u 15 7) (u 15 10) (u 15 14) (u 14 10),
  fun u=>∀ S v,P_st_bmark (u 1 0) (u 25 0) (u 2 1) (u 3 0) (u 3 1) (u 4 0) (u 5 0) (u 6 0) (u 7 0) (u 22 2) (u 28 0) (u 15 10) (u 29 0) S v,
  fun u=>∀ S,P_st_mgoto (u 1 0) (u 25 0) (u 2 1) (u 3 0) (u 4 0) (u 5 0) (u 6 0) (u 7 0) (u 22 2) (u 28 0) (u 15 10) (u 30 0) (u 31 0) S,
  fun u=>P_st_size (u 1 0) (u 25 0) (u 28 0) (u 15 10),
  fun u=>P_st_goto (u 1 0) (u 25 0) (u 28 0) (u 15 10) (u 15 14) (u 14 10),
  fun u=>∀ S,P_st_bget (u 1 0) (u 25 0) (u 4 0) (u 5 0) (u 6 0) (u 22 2) (u 28 0) (u 15 10) S,
  fun u=>P_st_like (u 1 0) (u 25 0) (u 28 0) (u 15 7) (u 15 4),
  fun u=>P_st_gotom (u 1 0) (u 25 0) (u 28 0) (u 15 7) (u 15 10),
  fun u=>P_st_region (SpecU u) (u 1 0) (u 25 0) (u 28 0) (u 15 19) (u 22 1),
  fun u=>P_st_exch (u 1 0) (u 25 0) (u 28 0),
  fun u=>P_BfOk_mono (u 1 0) (u 25 0) (u 24 1) (u 21 0) (u 15 10) (u 15 11) (u 15 12) (u 10 4) (u 12 3) (u 12 4) (u 22 1),
  fun u=>∀ j l,P_st_insert (u 1 0) (u 25 0) (u 28 0) (u 15 14) (u 14 10) (u 6 7) (u 9 2) (u 12 2) j l,
  fun u=>∀ j l,P_st_delete (u 1 0) (u 25 0) (u 28 0) (u 15 17) (u 15 18) (u 14 9) (u 14 10) j l,
  fun u=>∀ x C Q,P_xc_entry (u 0 0) (u 1 0) (u 2 0) (u 3 0) (u 5 1) (u 32 0) (u 33 0) (u 12 5) (u 34 0) (u 6 5) (u 16 0) (u 19 2) (u 19 3) (u 6 12) (u 23 1) (u 23 2) (u 35 0) (u 23 3) (u 29 1) (u 36 0) (u 37 0) (u 38 0) (u 38 1) (u 38 2) (u 38 3) (u 38 4) (u 39 0) (u 39 1) (u 7 2) (u 7 3) (u 19 4) (u 10 21) (u 14 25) x C Q,
  fun u=>∀ x Q,P_raise_stmt (u 0 0) (u 1 0) (u 2 0) (u 3 0) (u 4 0) (u 18 0) x Q,
  fun u=>∀ A h l,P_r_goto1 (SpecRU u) (u 1 0) (u 28 0) (u 15 7) (u 15 10) A h l,
  fun u=>∀ rest,P_x_refused (u 1 0) (u 6 13) (u 12 6) (u 22 3) (u 16 6) (u 40 0) (u 0 1) (u 35 1) (u 41 0) (u 7 4) (u 7 5) (u 12 7) (u 12 8) (u 42 0) (u 19 5) (u 43 0) (u 6 14) (u 10 22) (u 44 0) (u 45 0) (u 2 2) (u 5 2) (u 5 0) (u 6 0) (u 7 0) (u 4 0) (u 3 1) (u 3 0) rest,
  fun u=>∀ f,P_enterXC (u 0 0) (u 1 0) (u 2 0) (u 2 2) (u 4 0) (u 46 0) (u 6 0) (u 5 0) (u 5 2) (u 7 0) (u 7 4) (u 7 5) (u 22 2) (u 0 1) (u 35 1) (u 41 0) (u 18 0) (u 45 0) (u 7 6) (u 7 7) (u 47 0) (u 48 0) (u 49 0) (u 19 4) (u 19 6) (u 50 0) (u 20 0) (u 43 1) (u 10 23) (u 10 24) (u 10 25) (u 10 26) (u 10 27) (u 10 7) (u 10 28) (u 37 1) (u 37 2) (u 51 0) f,
  fun u=>∀ St J,P_loopX (u 0 0) (u 1 0) (u 2 0) (u 4 0) (u 18 0) (u 5 0) (u 8 2) (u 20 0) (u 52 0) (u 49 0) (u 6 15) (u 53 0) (u 53 1) (u 12 0) (u 54 0) (u 54 1) (u 7 0) (u 22 2) St J,
  fun u=>∀ c P rest Tl body,P_lam_make (u 55 0) (u 2 0) (u 3 0) (u 4 0) (u 5 0) (u 6 0) (u 6 14) (u 7 0) (u 7 4) (u 7 5) (u 19 5) (u 43 0) (u 10 22) (u 44 0) (u 0 1) (u 35 1) (u 41 0) (u 19 4) (u 19 6) (u 50 0) (u 43 1) (u 56 0) (u 12 9) (u 44 1) (u 3 1) c P rest Tl body,
  fun u=>∀ Q,P_zipX (u 0 0) (u 1 0) (u 2 0) (u 3 0) (u 4 0) (u 18 0) (u 5 0) (u 20 0) (u 57 0) (u 12 10) (u 56 0) (u 6 16) (u 6 17) (u 12 11) (u 12 1) (u 23 4) (u 23 5) (u 7 0) (u 22 2) (u 52 0) Q,
  fun u=>∀ A l,P_st_numbers (u 1 0) (u 28 0) (u 15 10) A l,
  fun u=>∀ Q,P_enumX (u 0 0) (u 1 0) (u 2 0) (u 3 0) (u 4 0) (u 18 0) (u 5 0) (u 20 0) (u 57 0) (u 12 10) (u 56 0) (u 6 16) (u 12 11) (u 23 4) (u 7 0) (u 22 2) (u 52 0) Q,
  fun u=>∀ A k l,P_st_same0 (SpecU u) (u 1 0) (u 28 0) (u 15 7) A k l,
  fun u=>∀ a St,P_compC (u 0 0) (u 1 0) (u 2 0) (u 3 0) (u 4 0) (u 18 0) (u 5 0) (u 6 0) (u 8 3) (u 8 4) (u 8 5) (u 19 7) (u 56 1) (u 56 2) (u 56 3) (u 12 12) (u 43 1) (u 44 0) (u 56 0) (u 7 0) (u 22 2) (u 3 1) (u 6 15) (u 53 0) (u 53 1) (u 12 0) (u 54 0) (u 54 1) (u 58 0) (u 59 0) a St,
  fun u=>∀ a,P_zipC (u 0 0) (u 1 0) (u 2 0) (u 3 0) (u 4 0) (u 18 0) (u 5 0) (u 6 0) (u 8 3) (u 8 4) (u 8 5) (u 19 7) (u 56 1) (u 56 2) (u 56 3) (u 12 12) (u 43 1) (u 44 0) (u 56 0) (u 6 16) (u 6 17) (u 12 11) (u 12 1) (u 23 4) (u 23 5) (u 7 0) (u 22 2) (u 3 1) (u 59 0) a,
  fun u=>∀ p i' k,P_ids_take  p i' k,
  fun u=>∀ rest,P_is_so (u 1 0) (u 25 0) (u 28 0) (u 6 18) (u 6 19) (u 6 20) (u 6 21) (u 60 0) (u 61 0) (u 61 1) (u 12 13) (u 12 14) (u 12 15) (u 12 16) (u 14 26) (u 14 27) (u 22 4) (u 22 5) (u 0 1) (u 35 1) (u 41 0) (u 7 4) (u 7 5) (u 12 7) (u 12 8) (u 42 0) (u 19 5) (u 43 0) (u 6 14) (u 10 22) (u 44 0) (u 45 0) (u 2 2) (u 5 2) (u 5 0) (u 6 0) (u 7 0) (u 4 0) (u 3 1) (u 3 0) rest,
  fun u=>∀ s0 n0,P_law_led (SpecU u) (u 1 0) (u 15 8) (u 15 20) (u 14 2) (u 14 3) (u 14 4) (u 14 5) s0 n0,
  fun u=>∀ ns,P_law_draw (SpecU u) (u 1 0) (u 6 22) (u 23 0) (u 12 17) (u 15 21) (u 14 2) ns,
  fun u=>P_make_buffer (u 1 0) (u 15 7) (u 14 28) (u 19 2) (u 14 2) (u 0 1) (u 35 1) (u 41 0) (u 7 4) (u 7 5) (u 12 7) (u 12 8) (u 42 0) (u 19 5) (u 43 0) (u 6 14) (u 10 22) (u 44 0) (u 45 0) (u 2 2) (u 5 2) (u 5 0) (u 6 0) (u 7 0) (u 62 0) (u 4 0) (u 3 1) (u 3 0),
  fun u=>∀ A Q x,P_rangeX (u 0 0) (u 1 0) (u 3 0) (u 4 0) (u 18 0) (u 5 0) (u 20 0) (u 56 0) (u 12 0) (u 14 29) (u 7 0) (u 22 2) (u 52 0) A Q x,
  fun u=>∀ A Q x,P_listX (u 0 0) (u 1 0) (u 3 0) (u 4 0) (u 18 0) (u 5 0) (u 20 0) (u 56 0) (u 6 1) (u 12 18) (u 23 4) (u 7 0) (u 22 2) (u 52 0) A Q x,
  fun u=>P_LI_ne_c7 (u 1 0) (u 12 19) (u 12 20) (u 25 0) (u 28 0) (u 6 22) (u 6 18) (u 6 20) (u 6 19) (u 6 21) (u 60 0) (u 22 4) (u 22 6) (u 22 7) (u 23 6) (u 24 2),
  fun u=>P_LI_row (u 1 0) (u 12 19) (u 12 20) (u 25 0) (u 28 0) (u 28 1) (u 6 22) (u 6 18) (u 6 20) (u 6 19) (u 6 21) (u 60 0) (u 22 4) (u 22 8) (u 22 6) (u 22 7) (u 23 6) (u 23 7) (u 24 2) (u 24 3) (u 15 7) (u 6 23),
  fun u=>P_lap_row (u 1 0) (u 12 19) (u 12 20) (u 16 7) (u 25 0) (u 28 0) (u 28 1) (u 6 22) (u 6 18) (u 6 20) (u 6 19) (u 6 21) (u 60 0) (u 61 0) (u 61 1) (u 22 4) (u 22 8) (u 22 6) (u 22 7) (u 23 6) (u 23 7) (u 24 2) (u 24 3) (u 12 21) (u 12 13) (u 12 15) (u 12 14) (u 12 16) (u 14 26) (u 14 27) (u 16 8) (u 16 9) (u 16 10) (u 16 11) (u 16 12) (u 16 13) (u 16 14) (u 16 15) (u 12 3) (u 5 0) (u 5 3) (u 7 6) (u 15 7) (u 15 22) (u 15 23) (u 6 23) (u 14 30) (u 14 31),
  fun u=>∀ body cs,P_way_2 (u 1 0) (u 12 7) (u 12 8) (u 42 0) (u 6 14) (u 2 2) (u 5 2) (u 0 1) (u 35 1) (u 41 0) (u 7 4) (u 7 5) (u 12 19) (u 12 20) (u 16 7) (u 25 0) (u 4 0) (u 49 0) (u 63 0) (u 6 22) (u 6 18) (u 6 20) (u 6 19) (u 5 0) (u 28 0) (u 6 21) (u 60 0) (u 61 0) (u 61 1) (u 22 4) (u 22 6) (u 22 7) (u 23 6) (u 24 2) (u 12 21) (u 12 13) (u 12 15) (u 12 14) (u 12 16) (u 14 26) (u 14 27) (u 7 8) (u 16 8) (u 16 9) (u 16 10) (u 16 11) (u 16 12) (u 16 13) (u 16 14) (u 16 15) (u 38 5) (u 38 6) (u 38 7) (u 15 3) (u 15 24) (u 14 32) (u 14 14) (u 14 33) body cs,
  fun u=>∀ rest S Q,P_st_setmark (u 1 0) (u 25 0) (u 28 0) (u 12 7) (u 12 8) (u 42 0) (u 19 5) (u 43 0) (u 6 14) (u 10 22) (u 44 0) (u 45 0) (u 2 2) (u 5 2) (u 5 0) (u 0 1) (u 35 1) (u 41 0) (u 7 4) (u 7 5) (u 6 0) (u 7 0) (u 4 0) (u 3 0) rest S Q,
  fun u=>P_lap_rowD (u 1 0) (u 12 19) (u 12 20) (u 16 7) (u 25 0) (u 28 0) (u 28 1) (u 6 22) (u 6 18) (u 6 20) (u 6 19) (u 6 21) (u 60 0) (u 61 0) (u 61 1) (u 22 4) (u 22 8) (u 22 6) (u 22 7) (u 23 6) (u 23 7) (u 24 2) (u 24 3) (u 12 21) (u 12 13) (u 12 15) (u 12 14) (u 12 16) (u 14 26) (u 14 27) (u 16 8) (u 16 9) (u 16 10) (u 16 11) (u 16 12) (u 16 13) (u 16 14) (u 16 15) (u 12 3) (u 5 0) (u 5 3) (u 7 6) (u 15 7) (u 15 22) (u 15 23) (u 6 23) (u 14 30) (u 14 31),
  fun u=>P_LI_copy (u 1 0) (u 12 19) (u 12 20) (u 25 0) (u 28 0) (u 28 1) (u 6 22) (u 6 18) (u 6 20) (u 6 19) (u 6 21) (u 60 0) (u 22 4) (u 22 8) (u 22 6) (u 22 7) (u 23 6) (u 23 7) (u 24 2) (u 24 3) (u 15 7) (u 15 10),
  fun u=>P_lap_copy (u 1 0) (u 12 19) (u 12 20) (u 16 7) (u 25 0) (u 28 0) (u 28 1) (u 6 22) (u 6 18) (u 6 20) (u 6 19) (u 6 21) (u 60 0) (u 61 0) (u 61 1) (u 22 4) (u 22 8) (u 22 6) (u 22 7) (u 23 6) (u 23 7) (u 24 2) (u 24 3) (u 12 21) (u 12 13) (u 12 15) (u 12 14) (u 12 16) (u 14 26) (u 14 27) (u 16 8) (u 16 9) (u 16 10) (u 16 11) (u 16 12) (u 16 13) (u 16 14) (u 16 15) (u 12 3) (u 5 0) (u 5 3) (u 7 6) (u 15 7) (u 15 10),
  fun u=>∀ body cs,P_way_0 (u 1 0) (u 12 7) (u 12 8) (u 42 0) (u 6 14) (u 2 2) (u 5 2) (u 0 1) (u 35 1) (u 41 0) (u 7 4) (u 7 5) (u 12 19) (u 12 20) (u 16 7) (u 25 0) (u 4 0) (u 49 0) (u 63 0) (u 6 22) (u 6 18) (u 6 20) (u 6 19) (u 5 0) (u 28 0) (u 6 21) (u 60 0) (u 61 0) (u 61 1) (u 22 4) (u 22 6) (u 22 7) (u 23 6) (u 24 2) (u 12 21) (u 12 13) (u 12 15) (u 12 14) (u 12 16) (u 14 26) (u 14 27) (u 7 8) (u 16 8) (u 16 9) (u 16 10) (u 16 11) (u 16 12) (u 16 13) (u 16 14) (u 16 15) (u 38 5) (u 38 6) (u 38 7) (u 15 3) (u 15 24) (u 14 32) (u 14 14) (u 14 33) body cs,
  fun u=>∀ body cs,P_way_3 (u 1 0) (u 12 7) (u 12 8) (u 42 0) (u 6 14) (u 2 2) (u 5 2) (u 0 1) (u 35 1) (u 41 0) (u 7 4) (u 7 5) (u 12 19) (u 12 20) (u 16 7) (u 25 0) (u 4 0) (u 49 0) (u 63 0) (u 6 22) (u 6 18) (u 6 20) (u 6 19) (u 5 0) (u 28 0) (u 6 21) (u 60 0) (u 61 0) (u 61 1) (u 22 4) (u 22 6) (u 22 7) (u 23 6) (u 24 2) (u 12 21) (u 12 13) (u 12 15) (u 12 14) (u 12 16) (u 14 26) (u 14 27) (u 7 8) (u 16 8) (u 16 9) (u 16 10) (u 16 11) (u 16 12) (u 16 13) (u 16 14) (u 16 15) (u 38 5) (u 38 6) (u 38 7) (u 15 3) (u 15 24) (u 14 32) (u 14 14) (u 14 33) body cs,
  fun u=>P_tt_new (u 1 0) (u 12 19) (u 12 20) (u 16 7) (u 25 0) (u 28 0) (u 6 22) (u 6 18) (u 6 20) (u 6 19) (u 6 21) (u 60 0) (u 61 0) (u 61 1) (u 22 4) (u 22 6) (u 22 7) (u 22 9) (u 23 6) (u 12 21) (u 12 13) (u 12 15) (u 12 14) (u 12 16) (u 14 26) (u 14 27) (u 16 8) (u 16 9) (u 16 10) (u 16 11) (u 16 12) (u 16 13) (u 16 14) (u 16 15) (u 64 0),
  fun u=>P_lap_gen (u 1 0) (u 12 19) (u 12 20) (u 16 7) (u 25 0) (u 28 0) (u 6 22) (u 6 18) (u 6 20) (u 6 19) (u 6 21) (u 60 0) (u 61 0) (u 61 1) (u 22 4) (u 22 6) (u 22 7) (u 23 6) (u 24 2) (u 12 21) (u 12 13) (u 12 15) (u 12 14) (u 12 16) (u 14 26) (u 14 27) (u 16 8) (u 16 9) (u 16 10) (u 16 11) (u 16 12) (u 16 13) (u 16 14) (u 16 15) (u 12 3) (u 5 0) (u 5 3) (u 7 6),
  fun u=>P_lap_row2 (u 21 1) (u 1 0) (u 12 19) (u 12 20) (u 16 7) (u 25 0) (u 28 0) (u 28 1) (u 6 22) (u 6 18) (u 6 20) (u 6 19) (u 6 21) (u 60 0) (u 61 0) (u 61 1) (u 22 4) (u 22 8) (u 22 6) (u 22 7) (u 23 6) (u 23 7) (u 24 2) (u 24 3) (u 12 21) (u 12 13) (u 12 15) (u 12 14) (u 12 16) (u 14 26) (u 14 27) (u 16 8) (u 16 9) (u 16 10) (u 16 11) (u 16 12) (u 16 13) (u 16 14) (u 16 15) (u 12 3) (u 5 0) (u 5 3) (u 7 6) (u 15 7) (u 15 22) (u 15 23) (u 6 23) (u 14 30) (u 14 31),
  fun u=>∀ body cs,P_way_5 (u 1 0) (u 12 7) (u 12 8) (u 42 0) (u 6 14) (u 2 2) (u 5 2) (u 0 1) (u 35 1) (u 41 0) (u 7 4) (u 7 5) (u 12 19) (u 12 20) (u 16 7) (u 25 0) (u 4 0) (u 49 0) (u 63 0) (u 6 22) (u 6 18) (u 6 20) (u 6 19) (u 5 0) (u 28 0) (u 6 21) (u 60 0) (u 61 0) (u 61 1) (u 22 4) (u 22 6) (u 22 7) (u 23 6) (u 24 2) (u 12 21) (u 12 13) (u 12 15) (u 12 14) (u 12 16) (u 14 26) (u 14 27) (u 7 8) (u 16 8) (u 16 9) (u 16 10) (u 16 11) (u 16 12) (u 16 13) (u 16 14) (u 16 15) (u 38 5) (u 38 6) (u 38 7) (u 15 3) (u 15 24) (u 14 32) (u 14 14) (u 14 33) body cs,
  fun u=>∀ body cs,P_way_6 (u 1 0) (u 12 7) (u 12 8) (u 42 0) (u 6 14) (u 2 2) (u 5 2) (u 0 1) (u 35 1) (u 41 0) (u 7 4) (u 7 5) (u 12 19) (u 12 20) (u 16 7) (u 25 0) (u 4 0) (u 49 0) (u 63 0) (u 6 22) (u 6 18) (u 6 20) (u 6 19) (u 5 0) (u 28 0) (u 6 21) (u 60 0) (u 61 0) (u 61 1) (u 22 4) (u 22 6) (u 22 7) (u 23 6) (u 24 2) (u 12 21) (u 12 13) (u 12 15) (u 12 14) (u 12 16) (u 14 26) (u 14 27) (u 7 8) (u 16 8) (u 16 9) (u 16 10) (u 16 11) (u 16 12) (u 16 13) (u 16 14) (u 16 15) (u 38 5) (u 38 6) (u 38 7) (u 15 3) (u 15 24) (u 14 32) (u 14 14) (u 14 33) body cs,
  fun u=>∀ A a P St,P_compP (u 0 0) (u 1 0) (u 3 0) (u 4 0) (u 18 0) (u 5 0) (u 6 0) (u 8 3) (u 8 4) (u 19 7) (u 56 1) (u 56 2) (u 56 3) (u 12 12) (u 43 1) (u 44 0) (u 56 0) (u 7 0) (u 22 2) (u 65 0) (u 6 15) (u 53 0) (u 53 1) (u 12 0) (u 54 1) (u 58 0) (u 12 22) (u 66 0) A a P St,
  fun u=>∀ A a p,P_rowsC (u 0 0) (u 1 0) (u 3 0) (u 4 0) (u 18 0) (u 5 0) (u 6 0) (u 8 3) (u 8 4) (u 19 7) (u 56 1) (u 56 2) (u 56 3) (u 12 12) (u 43 1) (u 44 0) (u 56 0) (u 6 21) (u 12 16) (u 60 0) (u 21 4) (u 61 0) (u 61 1) (u 7 0) (u 22 2) (u 65 0) A a p,
  fun u=>∀ C i i',P_c4_end (u 5 0) (u 5 3) (u 6 0) (u 6 11) (u 6 24) (u 7 0) (u 16 16) (u 23 8) (u 22 10) (u 22 11) (u 22 2) (u 22 9) (u 22 12) (u 4 0) (u 3 3) (u 21 4) (u 21 5) (u 12 22) (u 15 25) (u 14 29) (u 14 34) (u 12 23) (u 67 0) C i i',
  fun u=>∀ st cs p,P_homes4 (u 1 0) (u 12 7) (u 12 8) (u 42 0) (u 6 14) (u 2 2) (u 5 2) (u 0 2) (u 35 1) (u 41 0) (u 7 4) (u 7 5) (u 12 19) (u 12 20) (u 16 7) (u 25 0) (u 4 0) (u 49 0) (u 63 0) (u 6 22) (u 6 18) (u 6 20) (u 6 19) (u 5 0) (u 6 21) (u 60 0) (u 21 4) (u 61 0) (u 61 1) (u 12 16) (u 7 0) (u 22 2) (u 16 9) (u 16 10) (u 16 11) (u 16 12) (u 15 24) (u 15 17) (u 15 18) (u 15 26) (u 14 3) (u 14 4) (u 14 5) (u 14 6) st cs p,
  fun u=>∀ T,P_LI_fresh (u 1 0) (u 12 19) (u 12 20) (u 25 0) (u 28 0) (u 28 1) (u 6 22) (u 6 18) (u 6 20) (u 6 19) (u 6 21) (u 6 11) (u 60 0) (u 22 4) (u 22 8) (u 22 6) (u 22 7) (u 23 6) (u 23 7) (u 24 2) (u 24 3) T,
  fun u=>∀ b b',P_lap_fresh (u 1 0) (u 12 19) (u 12 20) (u 16 7) (u 25 0) (u 28 0) (u 6 11) (u 60 1) (u 15 24) (u 15 17) (u 15 18) (u 15 26) (u 14 35) (u 14 36) (u 6 22) (u 6 18) (u 6 20) (u 6 19) (u 6 21) (u 60 0) (u 61 0) (u 61 1) (u 22 4) (u 22 8) (u 22 6) (u 22 7) (u 23 6) (u 23 7) (u 24 2) (u 24 3) (u 12 21) (u 12 13) (u 12 15) (u 12 14) (u 12 16) (u 14 26) (u 14 27) (u 16 8) (u 16 9) (u 16 10) (u 16 11) (u 16 12) (u 16 13) (u 16 14) (u 16 15) (u 5 0) (u 5 3) (u 7 6) b b',
  fun u=>∀ body cs,P_way4_tail (u 1 0) (u 12 7) (u 12 8) (u 42 0) (u 6 14) (u 2 2) (u 5 2) (u 0 1) (u 35 1) (u 41 0) (u 7 4) (u 7 5) (u 12 19) (u 12 20) (u 16 7) (u 25 0) (u 4 0) (u 49 0) (u 63 0) (u 6 22) (u 6 18) (u 6 20) (u 6 19) (u 5 0) (u 28 0) (u 6 21) (u 60 0) (u 61 0) (u 61 1) (u 22 4) (u 22 8) (u 22 6) (u 22 7) (u 23 6) (u 23 7) (u 24 2) (u 24 3) (u 15 17) (u 15 18) (u 15 26) (u 14 4) (u 14 5) (u 14 6) (u 7 0) (u 12 21) (u 12 13) (u 12 15) (u 12 14) (u 12 16) (u 14 26) (u 14 27) (u 7 8) (u 16 8) (u 16 9) (u 16 10) (u 16 11) (u 16 12) (u 16 13) (u 16 14) (u 16 15) (u 38 5) (u 38 6) (u 38 7) (u 15 3) (u 15 24) (u 14 32) (u 14 14) (u 14 33) body cs,
  fun u=>∀ body cs,P_way_4 (u 1 0) (u 12 7) (u 12 8) (u 42 0) (u 6 14) (u 2 2) (u 5 2) (u 0 1) (u 35 1) (u 41 0) (u 7 4) (u 7 5) (u 12 19) (u 12 20) (u 16 7) (u 25 0) (u 4 0) (u 49 0) (u 63 0) (u 6 22) (u 6 18) (u 6 20) (u 6 19) (u 5 0) (u 28 0) (u 6 21) (u 60 0) (u 61 0) (u 61 1) (u 22 4) (u 22 6) (u 22 7) (u 23 6) (u 24 2) (u 12 21) (u 12 13) (u 12 15) (u 12 14) (u 12 16) (u 14 26) (u 14 27) (u 7 8) (u 16 8) (u 16 9) (u 16 10) (u 16 11) (u 16 12) (u 16 13) (u 16 14) (u 16 15) (u 38 5) (u 38 6) (u 38 7) (u 15 3) (u 15 24) (u 14 32) (u 14 14) (u 14 33) body cs,
  fun u=>∀ body cs m,P_lap_tail (u 1 0) (u 12 7) (u 12 8) (u 42 0) (u 6 14) (u 2 2) (u 5 2) (u 0 1) (u 35 1) (u 41 0) (u 7 4) (u 7 5) (u 12 19) (u 12 20) (u 16 7) (u 25 0) (u 4 0) (u 49 0) (u 63 0) (u 6 22) (u 6 18) (u 6 20) (u 6 19) (u 5 0) (u 22 2) (u 12 3) body cs m,
  fun u=>P_LapJ_mono (u 1 0) (u 12 19) (u 12 20) (u 16 7) (u 25 0) (u 6 22) (u 6 18) (u 6 20) (u 6 19) (u 12 3) (u 12 24) (u 7 0) (u 22 2),
  fun u=>∀ body cs m,P_lap (u 1 0) (u 12 7) (u 12 8) (u 42 0) (u 6 14) (u 2 2) (u 5 2) (u 0 1) (u 35 1) (u 41 0) (u 7 4) (u 7 5) (u 12 19) (u 12 20) (u 16 7) (u 25 0) (u 4 0) (u 49 0) (u 63 0) (u 6 22) (u 6 18) (u 6 20) (u 6 19) (u 5 0) (u 22 2) (u 12 3) (u 10 0) body cs m,
  fun u=>∀ A a P St xy,P_compS (u 0 0) (u 1 0) (u 3 0) (u 4 0) (u 18 0) (u 5 0) (u 6 0) (u 8 3) (u 8 4) (u 56 1) (u 43 1) (u 44 0) (u 56 0) (u 7 0) (u 22 2) (u 65 0) (u 6 15) (u 53 0) (u 53 1) (u 12 0) (u 54 1) (u 12 22) (u 66 0) A a P St xy,
  fun u=>∀ A a k,P_rangeS (u 0 0) (u 1 0) (u 3 0) (u 4 0) (u 18 0) (u 5 0) (u 6 0) (u 8 3) (u 8 4) (u 56 1) (u 43 1) (u 44 0) (u 56 0) (u 12 0) (u 14 28) (u 7 0) (u 22 2) (u 3 1) A a k,
  fun u=>∀ ns,P_law_deck2 (u 1 0) (u 6 25) (u 23 0) (u 0 1) (u 35 1) (u 41 0) (u 7 4) (u 7 5) (u 12 7) (u 12 8) (u 42 0) (u 19 5) (u 43 0) (u 6 14) (u 10 22) (u 44 0) (u 45 0) (u 2 2) (u 5 2) (u 5 0) (u 6 0) (u 7 0) (u 62 0) (u 4 0) (u 3 1) (u 3 0) ns,
  fun u=>∀ G,P_ins0 (u 1 0) (u 25 0) (u 21 0) (u 15 10) (u 15 11) (u 15 12) (u 15 14) (u 10 4) (u 12 3) (u 6 7) (u 9 2) (u 12 2) (u 14 10) G,
  fun u=>∀ i j k,P_turn_end (u 1 0) (u 25 0) (u 5 0) (u 5 3) (u 6 0) (u 6 15) (u 6 11) (u 6 22) (u 6 18) (u 16 7) (u 16 17) (u 22 13) (u 22 14) (u 22 15) (u 23 6) (u 24 2) (u 12 21) (u 12 13) (u 16 8) (u 16 9) (u 16 10) (u 16 11) (u 16 12) (u 16 13) (u 16 14) (u 16 15) (u 7 0) (u 38 8) (u 15 27) (u 15 28) i j k,
  fun u=>∀ st cs h₀ m,P_loop0 (u 1 0) (u 12 7) (u 12 8) (u 42 0) (u 6 14) (u 2 2) (u 5 2) (u 0 1) (u 35 1) (u 41 0) (u 7 4) (u 7 5) (u 6 0) (u 4 0) (u 49 0) (u 63 0) (u 25 0) (u 6 22) (u 6 18) (u 12 13) (u 12 21) (u 26 1) (u 22 15) (u 23 6) (u 24 2) (u 16 8) (u 16 9) (u 16 10) (u 16 11) (u 16 12) (u 16 13) (u 16 14) (u 16 15) (u 38 8) st cs h₀ m,
  fun u=>∀ C x i,P_mm_end (u 1 0) (u 5 0) (u 5 3) (u 6 0) (u 6 11) (u 6 26) (u 7 0) (u 16 16) (u 23 8) (u 22 10) (u 22 11) (u 22 2) (u 4 0) (u 3 3) (u 12 22) (u 14 11) (u 14 12) (u 14 37) (u 14 38) (u 14 39) (u 14 40) (u 12 23) C x i,
  fun u=>∀ sz G,P_bf_ids (u 1 0) (u 25 1) (u 60 2) (u 60 3) (u 15 10) (u 12 3) sz G,
  fun u=>∀ zs,P_mk_state (u 1 0) (u 25 1) (u 5 0) (u 5 1) (u 6 0) (u 6 11) (u 26 1) (u 21 6) (u 22 10) (u 22 2) (u 12 22) zs,
  fun u=>∀ t0 t1,P_mk_bufs (u 1 0) (u 6 27) (u 6 28) (u 6 29) (u 6 30) (u 6 31) (u 6 32) (u 6 33) (u 6 34) (u 14 41) (u 14 42) (u 14 43) (u 14 44) (u 14 45) (u 14 46) (u 14 47) (u 14 48) (u 14 49) (u 14 50) (u 14 51) (u 14 52) (u 14 53) (u 14 54) (u 14 55) (u 14 56) (u 14 57) (u 14 58) (u 14 59) (u 14 60) (u 10 29) (u 10 30) (u 10 31) (u 10 32) (u 14 61) (u 14 62) (u 14 63) (u 14 64) (u 14 65) (u 14 66) (u 14 67) (u 14 68) (u 14 69) (u 14 70) (u 14 71) (u 14 72) (u 12 25) (u 9 3) (u 16 18) (u 6 35) (u 6 36) (u 6 37) (u 6 38) (u 6 39) (u 6 40) (u 6 41) (u 6 42) (u 14 73) (u 14 74) (u 14 75) (u 14 76) (u 14 77) (u 14 78) (u 14 79) (u 14 80) (u 14 81) (u 14 82) (u 14 83) (u 14 84) (u 14 85) (u 14 86) (u 14 87) (u 14 88) (u 14 89) (u 14 90) (u 14 91) (u 14 92) (u 10 33) (u 10 34) (u 10 35) (u 10 36) (u 14 93) (u 14 94) (u 14 95) (u 14 96) (u 14 97) (u 14 98) (u 14 99) (u 14 100) (u 14 101) (u 14 102) (u 14 103) (u 14 104) (u 12 11) (u 9 4) (u 16 19) t0 t1,
  fun u=>P_to_led0 (u 5 0) (u 5 1) (u 6 0) (u 6 18) (u 6 22) (u 16 20) (u 16 21) (u 22 16) (u 22 17) (u 22 15) (u 26 1) (u 16 8) (u 16 9) (u 16 10) (u 16 11) (u 16 12) (u 16 13) (u 16 14) (u 16 15),
  fun u=>P_to_led1 (u 5 0) (u 5 1) (u 6 0) (u 6 18) (u 6 22) (u 6 11) (u 16 20) (u 16 21) (u 22 4) (u 22 15) (u 26 1) (u 25 0) (u 25 2) (u 12 13) (u 16 8) (u 16 9) (u 16 10) (u 16 11) (u 16 12) (u 16 13) (u 16 14) (u 16 15),
  fun u=>P_lap_start (u 1 0) (u 12 19) (u 25 0) (u 21 6) (u 22 4) (u 6 22) (u 6 18) (u 6 20) (u 6 19) (u 6 21) (u 6 16) (u 6 43) (u 6 44) (u 6 28) (u 6 42) (u 16 22) (u 16 23) (u 5 0) (u 5 1) (u 7 6) (u 23 6) (u 24 2) (u 12 21) (u 12 13) (u 12 15) (u 12 14) (u 12 16) (u 14 26) (u 14 27) (u 14 30) (u 14 31) (u 16 8) (u 16 9) (u 16 10) (u 16 11) (u 16 12) (u 16 13) (u 16 14) (u 16 15),
  fun u=>P_LapJ_any (u 1 0) (u 12 19) (u 12 20) (u 16 7) (u 16 24) (u 25 0) (u 6 22) (u 6 18) (u 6 20) (u 6 19) (u 12 3) (u 7 0) (u 22 2),
  fun u=>P_LapJ_apart (u 1 0) (u 12 19) (u 12 20) (u 16 7) (u 25 0) (u 6 22) (u 6 18) (u 6 20) (u 6 19) (u 12 3) (u 7 0) (u 22 2),
  fun u=>∀ body cs,P_law_rest (u 1 0) (u 12 7) (u 12 8) (u 42 0) (u 6 14) (u 2 2) (u 5 2) (u 0 1) (u 35 1) (u 41 0) (u 7 4) (u 7 5) (u 6 0) (u 4 0) (u 49 0) (u 63 0) (u 7 0) (u 25 0) (u 26 1) (u 21 6) (u 6 22) (u 6 18) (u 12 13) (u 12 21) (u 23 6) (u 24 2) (u 16 8) (u 16 9) (u 16 10) (u 16 11) (u 16 12) (u 16 13) (u 16 14) (u 16 15) (u 38 9) (u 38 10) (u 38 5) (u 38 6) (u 38 7) (u 38 8) (u 38 11) body cs,
  fun u=>∀ body cs,P_law_all (u 1 0) (u 12 7) (u 12 8) (u 42 0) (u 6 14) (u 2 2) (u 5 2) (u 0 1) (u 35 1) (u 41 0) (u 7 4) (u 7 5) (u 6 0) (u 4 0) (u 49 0) (u 63 0) (u 7 0) (u 6 25) (u 23 0) (u 24 4) (u 16 8) (u 16 9) (u 16 10) (u 16 11) (u 16 12) (u 16 13) (u 16 14) (u 16 15) body cs]
def Pf (i:Nat) (u:SkU) : Prop:=(fam.getD i (fun _=>True)) u
theorem neU:Nonempty SkU:=by
  have:=neW
  have:Nonempty Shared:=⟨{ heap:=default,gens:=#[],drawn:={},toks:=0,os:=default }⟩
  have:Nonempty Around:=⟨{}⟩
  have:Nonempty Drawn:=⟨{}⟩
  have:Nonempty Model:=⟨model default (Classical.choice neW)⟩
  have:Nonempty Ad:=⟨⟨fun _=>0,fun _=>0,fun _=>0,fun _=>0,fun _=>0,fun _=>0,fun _=>0,fun _=>0,fun _=>0,fun _=>0,fun _=>0⟩⟩
  have:Nonempty Sg:=⟨⟨fun _=>0,fun _=>0,fun _=>0,fun _=>0,false,0⟩⟩
  exact ⟨fun i _=>Classical.choice (neL SkL ⟨inferInstance,inferInstance,inferInstance,inferInstance,inferInstance,inferInstance,inferInstance,inferInstance,inferInstance,inferInstance,inferInstance,inferInstance,inferInstance,inferInstance,inferInstance,inferInstance,inferInstance,inferInstance,inferInstance,inferInstance,inferInstance,inferInstance,inferInstance,inferInstance,inferInstance,inferInstance,inferInstance,inferInstance,inferInstance,inferInstance,inferInstance,inferInstance,inferInstance,inferInstance,inferInstance,inferInstance,inferInstance,inferInstance,inferInstance,inferInstance,inferInstance,inferInstance,inferInstance,inferInstance,inferInstance,inferInstance,inferInstance,inferInstance,inferInstance,inferInstance,inferInstance,inferInstance,inferInstance,inferInstance,inferInstance,inferInstance,inferInstance,inferInstance,inferInstance,inferInstance,inferInstance,inferInstance,inferInstance,inferInstance,inferInstance,inferInstance,inferInstance,inferInstance,trivial⟩ i)⟩
theorem ex0:∃ u₀:SkU,∀ i,(∀ j,j<i→∀ u,Pf j u)→Pf i u₀→∀ u,Pf i u:=by
  by_cases h:∃ i,¬ ∀ u,Pf i u
  · obtain ⟨i,hi⟩:=h
    induction i using Nat.strongRecOn with
    | _ i ih =>
      by_cases hl:∃ j,j<i∧¬ ∀ u,Pf j u
      · obtain ⟨j,hj,hn⟩:=hl
        exact ih j hj hn
      · obtain ⟨u₀,hu⟩:=Classical.not_forall.mp hi
        refine ⟨u₀,fun k hk hc=>?_⟩
        by_cases hki:k=i
        · subst hki;exact absurd hc hu
        · by_cases hlt:k<i
          · exact Classical.byContradiction fun hn=>hl ⟨k,hlt,hn⟩
          · exact absurd (hk i (by omega)) hi
  · obtain ⟨u⟩:=neU
    exact ⟨u,fun i _ _=>Classical.byContradiction fun hn=>h ⟨i,hn⟩⟩
@[irreducible] def sk0:SkU:=Classical.choose ex0
theorem gen (i:Nat) (h:∀ j,j<i→∀ u,Pf j u) (c:Pf i sk0) : ∀ u,Pf i u:=by
  unfold sk0 at c
  exact Classical.choose_spec ex0 i h c
theorem hist0:∀ j,j<0→∀ u,Pf j u:=fun _ h=>absurd h (Nat.not_lt_zero _)
theorem histS (i:Nat) (h:∀ j,j<i→∀ u,Pf j u) (t:∀ u,Pf i u) : ∀ j,j<i+1→∀ u,Pf j u:=fun j hj=>by
  by_cases e:j=i
  · subst e;exact t
  · exact h j (by omega)
@[irreducible] def k0 (n:Nat) : Program:=sk0 0 n
@[irreducible] def k2 (n:Nat) : Around:=sk0 2 n
@[irreducible] def k3 (n:Nat) : Value→Shared→Prop:=sk0 3 n
@[irreducible] def k5 (n:Nat) : Heap:=sk0 5 n
@[irreducible] def k6 (n:Nat) : Addr:=sk0 6 n
@[irreducible] def k7 (n:Nat) : Str→Option Value:=sk0 7 n
@[irreducible] def k8 (n:Nat) : PySem.Expr:=sk0 8 n
@[irreducible] def k9 (n:Nat) : Array Value:=sk0 9 n
@[irreducible] def k10 (n:Nat) : Value:=sk0 10 n
@[irreducible] def k11 (n:Nat) : Option Int:=sk0 11 n
@[irreducible] def k12 (n:Nat) : Nat:=sk0 12 n
@[irreducible] def k13 (n:Nat) : Obj→List (Prod Addr Obj):=sk0 13 n
@[irreducible] def k14 (n:Nat) : Tok:=sk0 14 n
@[irreducible] def k15 (n:Nat) : Int:=sk0 15 n
@[irreducible] def k16 (n:Nat) : Obj:=sk0 16 n
@[irreducible] def k17 (n:Nat) : List (Prod Int Value):=sk0 17 n
@[irreducible] def k19 (n:Nat) : Str:=sk0 19 n
@[irreducible] def k20 (n:Nat) : List PySem.Stmt:=sk0 20 n
@[irreducible] def k21 (n:Nat) : Int→Int:=sk0 21 n
@[irreducible] def k22 (n:Nat) : Led:=sk0 22 n
@[irreducible] def k23 (n:Nat) : List Value:=sk0 23 n
@[irreducible] def k24 (n:Nat) : List Int:=sk0 24 n
@[irreducible] def k25 (n:Nat) : Ad:=sk0 25 n
@[irreducible] def k26 (n:Nat) : Int→Led:=sk0 26 n
@[irreducible] def k27 (n:Nat) : Nat→Tok:=sk0 27 n
@[irreducible] def k28 (n:Nat) : Sg:=sk0 28 n
@[irreducible] def k29 (n:Nat) : Bool:=sk0 29 n
@[irreducible] def k30 (n:Nat) : Sem Bool:=sk0 30 n
@[irreducible] def k31 (n:Nat) : Prod Value (List Value)→Shared→Prop:=sk0 31 n
@[irreducible] def k32 (n:Nat) : Array GenState:=sk0 32 n
@[irreducible] def k33 (n:Nat) : Drawn:=sk0 33 n
@[irreducible] def k34 (n:Nat) : OsState:=sk0 34 n
@[irreducible] def k35 (n:Nat) : List Str:=sk0 35 n
@[irreducible] def k36 (n:Nat) : Option Bool:=sk0 36 n
@[irreducible] def k37 (n:Nat) : Option Addr:=sk0 37 n
@[irreducible] def k38 (n:Nat) : Option Value:=sk0 38 n
@[irreducible] def k39 (n:Nat) : String:=sk0 39 n
@[irreducible] def k40 (n:Nat) : FuncData:=sk0 40 n
@[irreducible] def k43 (n:Nat) : Scope:=sk0 43 n
@[irreducible] def k44 (n:Nat) : List (Prod Str Addr):=sk0 44 n
@[irreducible] def k46 (n:Nat) : PySem.W.Frag:=sk0 46 n
@[irreducible] def k47 (n:Nat) : List (Prod Str Value):=sk0 47 n
@[irreducible] def k48 (n:Nat) : Args:=sk0 48 n
@[irreducible] def k49 (n:Nat) : Result→Shared→Prop:=sk0 49 n
@[irreducible] def k50 (n:Nat) : Arguments:=sk0 50 n
@[irreducible] def k51 (n:Nat) : Array (Option Value):=sk0 51 n
@[irreducible] def k52 (n:Nat) : Heap→Prop:=sk0 52 n
@[irreducible] def k54 (n:Nat) : Nat→Value→Heap→Prop:=sk0 54 n
@[irreducible] def k55 (n:Nat) : Model:=sk0 55 n
@[irreducible] def k56 (n:Nat) : Pos:=sk0 56 n
@[irreducible] def k57 (n:Nat) : List PySem.Expr:=sk0 57 n
@[irreducible] def k58 (n:Nat) : Nat→Value→Value→Prop:=sk0 58 n
@[irreducible] def k60 (n:Nat) : Int→Addr:=sk0 60 n
@[irreducible] def k65 (n:Nat) : Value→Addr→Result→Shared→Prop:=sk0 65 n
@[irreducible] def k67 (n:Nat) : Prop:=sk0 67 n
@[irreducible] def Z2.prog:Program:=sk0 0 0
@[irreducible] def Z2.w:World:=sk0 1 0
@[irreducible] def Z2.A:Around:=sk0 2 0
@[irreducible] def Z2.E:Value→Shared→Prop:=sk0 3 0
@[irreducible] def Z2.s:Shared:=sk0 4 0
@[irreducible] def Z2.h₀:Heap:=sk0 5 0
@[irreducible] def Z2.L:Addr:=sk0 6 0
@[irreducible] def Z2.l:Addr:=sk0 6 1
@[irreducible] def Z2.m:Str→Option Value:=sk0 7 0
@[irreducible] def Z2.its:Array Value:=sk0 9 0
@[irreducible] def Z2.vl:Value:=sk0 10 0
@[irreducible] def Z2.vu:Value:=sk0 10 1
@[irreducible] def Z2.n:Nat:=sk0 12 0
@[irreducible] def Z2.Q:Value→Shared→Prop:=sk0 3 1
@[irreducible] def Z2.new:Array Value:=sk0 9 1
@[irreducible] def Z2.src:Addr:=sk0 6 3
@[irreducible] def Z1.w:World:=sk0 1 0
@[irreducible] def Z1.x:Addr:=sk0 6 4
@[irreducible] def Z1.dx:Addr:=sk0 6 5
@[irreducible] def Z1.c:Addr:=sk0 6 6
@[irreducible] def Z1.t1:Tok:=sk0 14 2
@[irreducible] def Z1.t2:Tok:=sk0 14 3
@[irreducible] def Z1.t3:Tok:=sk0 14 4
@[irreducible] def Z1.t4:Tok:=sk0 14 5
@[irreducible] def Z1.t5:Tok:=sk0 14 6
@[irreducible] def Z1.t6:Tok:=sk0 14 7
@[irreducible] def Z1.its:Array Value:=sk0 9 0
@[irreducible] def Z1.n:Nat:=sk0 12 0
@[irreducible] def Z1.gs:Int:=sk0 15 1
@[irreducible] def Z1.ge:Int:=sk0 15 2
@[irreducible] def Z1.at_:Int:=sk0 15 3
@[irreducible] def Z1.k:Int:=sk0 15 4
@[irreducible] def Z1.nc:Nat:=sk0 12 2
@[irreducible] def Z1.t9:Tok:=sk0 14 10
@[irreducible] def Z1.b0:Int:=sk0 15 6
@[irreducible] def Z1.kd:Addr:=sk0 6 8
@[irreducible] def Z1.r:Addr:=sk0 6 9
@[irreducible] def Z1.o:Obj:=sk0 16 0
@[irreducible] def Z1.kvs:List (Prod Int Value):=sk0 17 0
@[irreducible] def Z1.i:Int:=sk0 15 7
@[irreducible] def Z1.p0:Int:=sk0 15 8
@[irreducible] def Z1.b:Value:=sk0 10 2
@[irreducible] def Z2.env:Env:=sk0 18 0
@[irreducible] def Z2.home:Int→Int:=sk0 21 0
@[irreducible] def Z2.vs:List Value:=sk0 23 0
@[irreducible] def Z2.ns:List Int:=sk0 24 0
@[irreducible] def Z2.j:Int:=sk0 15 10
@[irreducible] def Z2.f:Int→Int:=sk0 21 1
@[irreducible] def Z1.A:Ad:=sk0 25 0
@[irreducible] def Z1.I:List Int:=sk0 24 1
@[irreducible] def Z1.home:Int→Int:=sk0 21 0
@[irreducible] def Z1.pos:Int→Int:=sk0 21 2
@[irreducible] def Z1.u1:Tok:=sk0 14 11
@[irreducible] def Z1.j:Int:=sk0 15 10
@[irreducible] def Z1.size:Int:=sk0 15 11
@[irreducible] def Z1.point:Int:=sk0 15 12
@[irreducible] def Z1.mark:Value:=sk0 10 4
@[irreducible] def Z1.T:Nat→Tok:=sk0 27 0
@[irreducible] def Z1.place:Int:=sk0 15 14
@[irreducible] def Z1.v3:Value:=sk0 10 11
@[irreducible] def Z1.en_:Int:=sk0 15 16
@[irreducible] def Z1.s_:Int:=sk0 15 17
@[irreducible] def Z1.e_:Int:=sk0 15 18
@[irreducible] def Z1.v:Value:=sk0 10 21
@[irreducible] def Z1.kvs':List (Prod Int Value):=sk0 17 1
@[irreducible] def Z1.l:Led:=sk0 22 1
@[irreducible] def Z1.σ:Sg:=sk0 28 0
@[irreducible] def Z1.E:Value→Shared→Prop:=sk0 3 0
@[irreducible] def Z1.Q:Value→Shared→Prop:=sk0 3 1
@[irreducible] def Z1.s:Shared:=sk0 4 0
@[irreducible] def Z1.h₀:Heap:=sk0 5 0
@[irreducible] def Z1.L:Addr:=sk0 6 0
@[irreducible] def Z1.m:Str→Option Value:=sk0 7 0
@[irreducible] def Z2.σ:Sg:=sk0 28 0
@[irreducible] def Z2.p:Program:=sk0 0 1
@[irreducible] def Z2.loose:List Str:=sk0 35 1
@[irreducible] def Z2.mean:ExcName→Option Value:=sk0 41 0
@[irreducible] def Z2.mg:Str→Option Value:=sk0 7 4
@[irreducible] def Z2.mb:Str→Option Value:=sk0 7 5
@[irreducible] def Z2.dp:Nat:=sk0 12 7
@[irreducible] def Z2.un:Nat:=sk0 12 8
@[irreducible] def Z2.gd:Option (List Code):=sk0 42 0
@[irreducible] def Z2.cn:Str:=sk0 19 5
@[irreducible] def Z2.cs:Scope:=sk0 43 0
@[irreducible] def Z2.a:Addr:=sk0 6 14
@[irreducible] def Z2.ccd:Value:=sk0 10 22
@[irreducible] def Z2.cl:List (Prod Str Addr):=sk0 44 0
@[irreducible] def Z2.outer:List Env:=sk0 45 0
@[irreducible] def Z2.A₀:Around:=sk0 2 2
@[irreducible] def Z2.base:Heap:=sk0 5 2
@[irreducible] def Z2.news:Led:=sk0 22 2
@[irreducible] def Z2.m':Str→Option Value:=sk0 7 6
@[irreducible] def Z2.R:Result→Shared→Prop:=sk0 49 0
@[irreducible] def Z2.fp:List Addr:=sk0 53 0
@[irreducible] def Z2.wr:List Addr:=sk0 53 1
@[irreducible] def Z2.l1:Addr:=sk0 6 16
@[irreducible] def Z2.l2:Addr:=sk0 6 17
@[irreducible] def Z2.xs:List Value:=sk0 23 4
@[irreducible] def Z2.c:PySem.Expr:=sk0 8 5
@[irreducible] def Z2.b:Str:=sk0 19 7
@[irreducible] def Z2.J:Nat→List Value→Prop:=sk0 59 0
@[irreducible] def Z0.w:World:=sk0 1 0
@[irreducible] def Z0.A:Ad:=sk0 25 0
@[irreducible] def Z0.σ:Sg:=sk0 28 0
@[irreducible] def Z0.bl:Addr:=sk0 6 18
@[irreducible] def Z0.sp:Addr:=sk0 6 19
@[irreducible] def Z0.ow:Addr:=sk0 6 20
@[irreducible] def Z0.hl:Addr:=sk0 6 21
@[irreducible] def Z0.x:Int→Addr:=sk0 60 0
@[irreducible] def Z0.u:Int→Tok:=sk0 61 0
@[irreducible] def Z0.u':Int→Tok:=sk0 61 1
@[irreducible] def Z0.nb:Nat:=sk0 12 13
@[irreducible] def Z0.S:Led:=sk0 22 4
@[irreducible] def Z0.Tl:Led:=sk0 22 5
@[irreducible] def Z0.p:Program:=sk0 0 1
@[irreducible] def Z0.loose:List Str:=sk0 35 1
@[irreducible] def Z0.mean:ExcName→Option Value:=sk0 41 0
@[irreducible] def Z0.mg:Str→Option Value:=sk0 7 4
@[irreducible] def Z0.mb:Str→Option Value:=sk0 7 5
@[irreducible] def Z0.dp:Nat:=sk0 12 7
@[irreducible] def Z0.un:Nat:=sk0 12 8
@[irreducible] def Z0.gd:Option (List Code):=sk0 42 0
@[irreducible] def Z0.cn:Str:=sk0 19 5
@[irreducible] def Z0.cs:Scope:=sk0 43 0
@[irreducible] def Z0.a:Addr:=sk0 6 14
@[irreducible] def Z0.ccd:Value:=sk0 10 22
@[irreducible] def Z0.cl:List (Prod Str Addr):=sk0 44 0
@[irreducible] def Z0.outer:List Env:=sk0 45 0
@[irreducible] def Z0.A₀:Around:=sk0 2 2
@[irreducible] def Z0.base:Heap:=sk0 5 2
@[irreducible] def Z0.h₀:Heap:=sk0 5 0
@[irreducible] def Z0.L:Addr:=sk0 6 0
@[irreducible] def Z0.m:Str→Option Value:=sk0 7 0
@[irreducible] def Z0.s:Shared:=sk0 4 0
@[irreducible] def Z0.Q:Value→Shared→Prop:=sk0 3 1
@[irreducible] def Z0.E:Value→Shared→Prop:=sk0 3 0
@[irreducible] def Z0.dl:Addr:=sk0 6 22
@[irreducible] def Z0.rest:List (Prod Addr Obj):=sk0 62 0
@[irreducible] def Z0.env:Env:=sk0 18 0
@[irreducible] def Z0.n:Nat:=sk0 12 0
@[irreducible] def Z0.news:Led:=sk0 22 2
@[irreducible] def Z3.w:World:=sk0 1 0
@[irreducible] def Z3.L:Nat:=sk0 12 19
@[irreducible] def Z3.I:Nat:=sk0 12 20
@[irreducible] def Z3.A:Ad:=sk0 25 0
@[irreducible] def Z3.σ:Sg:=sk0 28 0
@[irreducible] def Z3.dl:Addr:=sk0 6 22
@[irreducible] def Z3.bl:Addr:=sk0 6 18
@[irreducible] def Z3.ow:Addr:=sk0 6 20
@[irreducible] def Z3.sp:Addr:=sk0 6 19
@[irreducible] def Z3.hl:Addr:=sk0 6 21
@[irreducible] def Z3.x:Int→Addr:=sk0 60 0
@[irreducible] def Z3.S:Led:=sk0 22 4
@[irreducible] def Z3.T1:Led:=sk0 22 6
@[irreducible] def Z3.T2:Led:=sk0 22 7
@[irreducible] def Z3.dv:List Value:=sk0 23 6
@[irreducible] def Z3.dn:List Int:=sk0 24 2
@[irreducible] def Z3.S':Led:=sk0 22 8
@[irreducible] def Z3.dv':List Value:=sk0 23 7
@[irreducible] def Z3.dn':List Int:=sk0 24 3
@[irreducible] def Z3.i:Int:=sk0 15 7
@[irreducible] def Z3.T:Addr:=sk0 6 23
@[irreducible] def Z3.oI:Obj:=sk0 16 7
@[irreducible] def Z3.u:Int→Tok:=sk0 61 0
@[irreducible] def Z3.u':Int→Tok:=sk0 61 1
@[irreducible] def Z3.nd:Nat:=sk0 12 21
@[irreducible] def Z3.nb:Nat:=sk0 12 13
@[irreducible] def Z3.no:Nat:=sk0 12 15
@[irreducible] def Z3.ns:Nat:=sk0 12 14
@[irreducible] def Z3.nh:Nat:=sk0 12 16
@[irreducible] def Z3.s0:Tok:=sk0 14 26
@[irreducible] def Z3.s1:Tok:=sk0 14 27
@[irreducible] def Z3.o1:Obj:=sk0 16 8
@[irreducible] def Z3.o2:Obj:=sk0 16 9
@[irreducible] def Z3.o3:Obj:=sk0 16 10
@[irreducible] def Z3.o4:Obj:=sk0 16 11
@[irreducible] def Z3.o5:Obj:=sk0 16 12
@[irreducible] def Z3.o6:Obj:=sk0 16 13
@[irreducible] def Z3.o7:Obj:=sk0 16 14
@[irreducible] def Z3.o8:Obj:=sk0 16 15
@[irreducible] def Z3.lim:Nat:=sk0 12 3
@[irreducible] def Z3.h₀:Heap:=sk0 5 0
@[irreducible] def Z3.m':Str→Option Value:=sk0 7 6
@[irreducible] def Z3.b:Tok:=sk0 14 30
@[irreducible] def Z3.b':Tok:=sk0 14 31
@[irreducible] def Z3.dp:Nat:=sk0 12 7
@[irreducible] def Z3.un:Nat:=sk0 12 8
@[irreducible] def Z3.gd:Option (List Code):=sk0 42 0
@[irreducible] def Z3.a:Addr:=sk0 6 14
@[irreducible] def Z3.A₀:Around:=sk0 2 2
@[irreducible] def Z3.base:Heap:=sk0 5 2
@[irreducible] def Z3.p:Program:=sk0 0 1
@[irreducible] def Z3.loose:List Str:=sk0 35 1
@[irreducible] def Z3.mean:ExcName→Option Value:=sk0 41 0
@[irreducible] def Z3.mg:Str→Option Value:=sk0 7 4
@[irreducible] def Z3.mb:Str→Option Value:=sk0 7 5
@[irreducible] def Z3.s:Shared:=sk0 4 0
@[irreducible] def Z3.R:Result→Shared→Prop:=sk0 49 0
@[irreducible] def Z3.P:Flow→Shared→Prop:=sk0 63 0
@[irreducible] def Z3.r:Str→Option Value:=sk0 7 8
@[irreducible] def Z3.v3:Option Value:=sk0 38 5
@[irreducible] def Z3.v4:Option Value:=sk0 38 6
@[irreducible] def Z3.v5:Option Value:=sk0 38 7
@[irreducible] def Z3.at_:Int:=sk0 15 3
@[irreducible] def Z3.side:Int:=sk0 15 24
@[irreducible] def Z3.ts:Tok:=sk0 14 33
@[irreducible] def Z3.j:Int:=sk0 15 10
@[irreducible] def Z3.q:Prod Addr Obj:=sk0 64 0
@[irreducible] def Z0.b:Str:=sk0 19 7
@[irreducible] def Z0.I:Addr:=sk0 6 15
@[irreducible] def Z0.fp:List Addr:=sk0 53 0
@[irreducible] def Z0.wr:List Addr:=sk0 53 1
@[irreducible] def Z0.Lo:Nat:=sk0 12 22
@[irreducible] def Z0.J:Nat→List Value→Led→Prop:=sk0 66 0
@[irreducible] def Z0.hm:Int→Int:=sk0 21 4
@[irreducible] def Z3.hm:Int→Int:=sk0 21 4
@[irreducible] def Z3.m:Str→Option Value:=sk0 7 0
@[irreducible] def Z3.news:Led:=sk0 22 2
@[irreducible] def Z3.s_:Int:=sk0 15 17
@[irreducible] def Z3.e_:Int:=sk0 15 18
@[irreducible] def Z3.n_:Int:=sk0 15 26
@[irreducible] def Z3.t3:Tok:=sk0 14 4
@[irreducible] def Z3.t4:Tok:=sk0 14 5
@[irreducible] def Z3.t5:Tok:=sk0 14 6
@[irreducible] def Z3.D:Addr:=sk0 6 11
@[irreducible] def Z0.point:Int:=sk0 15 12
@[irreducible] def Z0.mark:Value:=sk0 10 4
@[irreducible] def Z0.nc:Nat:=sk0 12 2
@[irreducible] def Z0.t9:Tok:=sk0 14 10
@[irreducible] def Z0.l9:Led:=sk0 22 13
@[irreducible] def Z0.GK:Led:=sk0 22 14
@[irreducible] def Z0.Tb:Led:=sk0 22 15
@[irreducible] def Z0.dv:List Value:=sk0 23 6
@[irreducible] def Z0.dn:List Int:=sk0 24 2
@[irreducible] def Z0.nd:Nat:=sk0 12 21
@[irreducible] def Z0.o7:Obj:=sk0 16 14
@[irreducible] def Z0.o8:Obj:=sk0 16 15
@[irreducible] def Z0.v7:Option Value:=sk0 38 8
@[irreducible] def Z0.P:Flow→Shared→Prop:=sk0 63 0
@[irreducible] def Z0.G:Int→Led:=sk0 26 1
@[irreducible] def Z0.d:Addr:=sk0 6 26
@[irreducible] def Z0.h:Heap:=sk0 5 1
@[irreducible] def Z0.sz:Int→Int:=sk0 21 6
@[irreducible] def Z0.ls1:Addr:=sk0 6 42
@[irreducible] def Z3.tp:Addr:=sk0 6 43
@[irreducible] def Z3.h:Heap:=sk0 5 1
@[irreducible] def Z1.p:Program:=sk0 0 1
@[irreducible] def Z1.loose:List Str:=sk0 35 1
@[irreducible] def Z1.mean:ExcName→Option Value:=sk0 41 0
@[irreducible] def Z1.mg:Str→Option Value:=sk0 7 4
@[irreducible] def Z1.mb:Str→Option Value:=sk0 7 5
@[irreducible] def Z1.dp:Nat:=sk0 12 7
@[irreducible] def Z1.un:Nat:=sk0 12 8
@[irreducible] def Z1.gd:Option (List Code):=sk0 42 0
@[irreducible] def Z1.cn:Str:=sk0 19 5
@[irreducible] def Z1.cs:Scope:=sk0 43 0
@[irreducible] def Z1.a:Addr:=sk0 6 14
@[irreducible] def Z1.ccd:Value:=sk0 10 22
@[irreducible] def Z1.cl:List (Prod Str Addr):=sk0 44 0
@[irreducible] def Z1.outer:List Env:=sk0 45 0
@[irreducible] def Z1.A₀:Around:=sk0 2 2
@[irreducible] def Z1.base:Heap:=sk0 5 2
@[irreducible] def Z1.rest:List (Prod Addr Obj):=sk0 62 0
@[irreducible] def Z2.rest:List (Prod Addr Obj):=sk0 62 0
def Z0.SpecC (w:World) (f:Addr) (args:List Value) (dz:Nat) (led:List (Addr × Obj)) (wr:List Addr) (Post:Value→List (Addr × Obj)→Prop) : Prop:=SpecB Z0.p Z0.loose Z0.mean Z0.mg Z0.mb Z0.dp Z0.un Z0.gd Z0.cn Z0.cs Z0.a Z0.ccd Z0.cl Z0.outer Z0.A₀ Z0.base Z0.h₀ Z0.L Z0.m Z0.rest Z0.s Z0.Q Z0.E w f args dz led wr Post
def Z0.SpecFC (w:World) (f:Addr) (args:List Value) (dz:Nat) (led:List (Addr × Obj)) (wr:List Addr) (Post:Value→List (Addr × Obj)→List Addr→Prop) : Prop:=SpecFB Z0.p Z0.loose Z0.mean Z0.mg Z0.mb Z0.dp Z0.un Z0.gd Z0.cn Z0.cs Z0.a Z0.ccd Z0.cl Z0.outer Z0.A₀ Z0.base Z0.h₀ Z0.L Z0.m Z0.rest Z0.s Z0.Q Z0.E w f args dz led wr Post
def Z0.SpecRC (w:World) (f:Addr) (args:List Value) (dz:Nat) (led:Led) : Prop:=SpecRB Z0.p Z0.loose Z0.mean Z0.mg Z0.mb Z0.dp Z0.un Z0.gd Z0.cn Z0.cs Z0.a Z0.ccd Z0.cl Z0.outer Z0.A₀ Z0.base Z0.h₀ Z0.L Z0.m Z0.rest Z0.s Z0.Q Z0.E w f args dz led
def Z0.SpecXC (w:World) (f:Addr) (args:List Value) (dz:Nat) (led:Led) (wr:List Addr) (Post:Value→Led→Prop) : Prop:=SpecXB Z0.p Z0.loose Z0.mean Z0.mg Z0.mb Z0.dp Z0.un Z0.gd Z0.cn Z0.cs Z0.a Z0.ccd Z0.cl Z0.outer Z0.A₀ Z0.base Z0.h₀ Z0.L Z0.m Z0.rest Z0.s Z0.Q Z0.E w f args dz led wr Post
def Z1.SpecC (w:World) (f:Addr) (args:List Value) (dz:Nat) (led:List (Addr × Obj)) (wr:List Addr) (Post:Value→List (Addr × Obj)→Prop) : Prop:=SpecB Z1.p Z1.loose Z1.mean Z1.mg Z1.mb Z1.dp Z1.un Z1.gd Z1.cn Z1.cs Z1.a Z1.ccd Z1.cl Z1.outer Z1.A₀ Z1.base Z1.h₀ Z1.L Z1.m Z1.rest Z1.s Z1.Q Z1.E w f args dz led wr Post
def Z1.SpecFC (w:World) (f:Addr) (args:List Value) (dz:Nat) (led:List (Addr × Obj)) (wr:List Addr) (Post:Value→List (Addr × Obj)→List Addr→Prop) : Prop:=SpecFB Z1.p Z1.loose Z1.mean Z1.mg Z1.mb Z1.dp Z1.un Z1.gd Z1.cn Z1.cs Z1.a Z1.ccd Z1.cl Z1.outer Z1.A₀ Z1.base Z1.h₀ Z1.L Z1.m Z1.rest Z1.s Z1.Q Z1.E w f args dz led wr Post
def Z1.SpecRC (w:World) (f:Addr) (args:List Value) (dz:Nat) (led:Led) : Prop:=SpecRB Z1.p Z1.loose Z1.mean Z1.mg Z1.mb Z1.dp Z1.un Z1.gd Z1.cn Z1.cs Z1.a Z1.ccd Z1.cl Z1.outer Z1.A₀ Z1.base Z1.h₀ Z1.L Z1.m Z1.rest Z1.s Z1.Q Z1.E w f args dz led
def Z1.SpecXC (w:World) (f:Addr) (args:List Value) (dz:Nat) (led:Led) (wr:List Addr) (Post:Value→Led→Prop) : Prop:=SpecXB Z1.p Z1.loose Z1.mean Z1.mg Z1.mb Z1.dp Z1.un Z1.gd Z1.cn Z1.cs Z1.a Z1.ccd Z1.cl Z1.outer Z1.A₀ Z1.base Z1.h₀ Z1.L Z1.m Z1.rest Z1.s Z1.Q Z1.E w f args dz led wr Post
def Z2.SpecC (w:World) (f:Addr) (args:List Value) (dz:Nat) (led:List (Addr × Obj)) (wr:List Addr) (Post:Value→List (Addr × Obj)→Prop) : Prop:=SpecB Z2.p Z2.loose Z2.mean Z2.mg Z2.mb Z2.dp Z2.un Z2.gd Z2.cn Z2.cs Z2.a Z2.ccd Z2.cl Z2.outer Z2.A₀ Z2.base Z2.h₀ Z2.L Z2.m Z2.rest Z2.s Z2.Q Z2.E w f args dz led wr Post
def Z2.SpecFC (w:World) (f:Addr) (args:List Value) (dz:Nat) (led:List (Addr × Obj)) (wr:List Addr) (Post:Value→List (Addr × Obj)→List Addr→Prop) : Prop:=SpecFB Z2.p Z2.loose Z2.mean Z2.mg Z2.mb Z2.dp Z2.un Z2.gd Z2.cn Z2.cs Z2.a Z2.ccd Z2.cl Z2.outer Z2.A₀ Z2.base Z2.h₀ Z2.L Z2.m Z2.rest Z2.s Z2.Q Z2.E w f args dz led wr Post
def Z2.SpecRC (w:World) (f:Addr) (args:List Value) (dz:Nat) (led:Led) : Prop:=SpecRB Z2.p Z2.loose Z2.mean Z2.mg Z2.mb Z2.dp Z2.un Z2.gd Z2.cn Z2.cs Z2.a Z2.ccd Z2.cl Z2.outer Z2.A₀ Z2.base Z2.h₀ Z2.L Z2.m Z2.rest Z2.s Z2.Q Z2.E w f args dz led
def Z2.SpecXC (w:World) (f:Addr) (args:List Value) (dz:Nat) (led:Led) (wr:List Addr) (Post:Value→Led→Prop) : Prop:=SpecXB Z2.p Z2.loose Z2.mean Z2.mg Z2.mb Z2.dp Z2.un Z2.gd Z2.cn Z2.cs Z2.a Z2.ccd Z2.cl Z2.outer Z2.A₀ Z2.base Z2.h₀ Z2.L Z2.m Z2.rest Z2.s Z2.Q Z2.E w f args dz led wr Post
end
end Mine
namespace Mine
theorem h_0:∀ j,j<0→∀ u,Pf j u:=hist0
end Mine
namespace Mine
section
variable {prog:Program} {w:World} {A:Around} {E:Value→Shared→Prop} {s:Shared} {h₀:Heap} {L l:Addr} {m:Str→Option Value} {news:List (Addr × Obj)} {value slice:PySem.Expr} {its new:Array Value} {vl vu:Value} {lo hi:Option Int}
end
section
namespace Z2
theorem c_sl_read:∀ news,P_sl_read prog w A E s h₀ L l m (k8 0) (k8 1) its vl vu (k11 0) (k11 1) n Q news:=by
  intro news F N hm pl pu hz h hs ht
  refine kmk_slice F N (PySem.IsL.isList (n:=n) (N _ hm).1) pl pu (fun D h' F' N' l1=>h D _ h' (Nat.le_trans (slicePick_size_le ..) hz) ?_ F' N' l1) hs ht (Nat.le_trans hz (by rw [sizeLine_eq];omega))
  rw [kms_pick_eq]
  simp only [List.size_toArray,kms_pick,List.length_take,List.length_drop,Array.length_toList]
  have h1:kms_hi (k11 1) its.size≤its.size:=by
    cases (k11 1) with
    | none=>exact Nat.le_refl _
    | some y=>simp only [kms_hi];split <;> omega
  omega
end Z2
theorem h_1:∀ j,j<1→∀ u,Pf j u:=histS 0 h_0 (gen 0 h_0 (by with_unfolding_all exact Z2.c_sl_read))
theorem sl_read {prog:Program} {w:World} {A:Around} {E:Value→Shared→Prop} {s:Shared} {h₀:Heap} {L l:Addr} {m:Str→Option Value} {news:List (Prod Addr Obj)} {value slice:PySem.Expr} {its:Array Value} {vl vu:Value} {lo hi:Option Int} {n:Nat} {Q:Value→Shared→Prop} : P_sl_read prog w A E s h₀ L l m value slice its vl vu lo hi n Q news:=by with_unfolding_all exact h_1 0 (Nat.lt_succ_self 0) (sk0 |>.set 0 0 prog |>.set 1 0 w |>.set 2 0 A |>.set 3 0 E |>.set 4 0 s |>.set 5 0 h₀ |>.set 6 0 L |>.set 6 1 l |>.set 7 0 m |>.set 8 0 value |>.set 8 1 slice |>.set 9 0 its |>.set 10 0 vl |>.set 10 1 vu |>.set 11 0 lo |>.set 11 1 hi |>.set 12 0 n |>.set 3 1 Q) news
end
section
variable {prog:Program} {w:World} {A:Around} {E:Value→Shared→Prop} {s:Shared} {h₀:Heap} {L l:Addr} {m:Str→Option Value} {news:List (Addr × Obj)} {value slice:PySem.Expr} {its new:Array Value} {vl vu:Value} {lo hi:Option Int}
theorem wp_items {M:Model} {a:Addr} {o:Obj} {xs:Array Value} {n:Nat} {Q:Array Value→Shared→Prop} (ho:s.heap.get? a=some o) (hd:o.data=.seq xs n) (h:Q xs s) : wpAny M A (Builtin.List.listItems (.ref a)) Q E s:=by
  unfold Builtin.List.listItems
  exact wpAny_bind (wpAny_seqItems ho hd (wpAny_pure h))
theorem toNat_max {a b:Nat} : (max (a:Int) (b:Int)).toNat=max a b:=by
  rcases Nat.le_total a b with h | h
  · rw [Nat.max_eq_right h,Int.max_eq_right (Int.ofNat_le.mpr h)];rfl
  · rw [Nat.max_eq_left h,Int.max_eq_left (Int.ofNat_le.mpr h)];rfl
theorem cut_le {a b n m k:Nat} (h:n+m≤k) : min a n-0+m+(min n n-max a b)≤k+1:=by
  have h1:min a n≤n:=Nat.min_le_right ..
  have h2:min a n≤max a b:=Nat.le_trans (Nat.min_le_left ..) (Nat.le_max_left ..)
  rw [Nat.min_self]
  generalize min a n=p at h1 h2 ⊢
  generalize max a b=q at h2 ⊢
  omega
end
section
namespace Z2
theorem c_wp_setSlice:∀ Q,P_wp_setSlice prog w A E s l its new vl vu (k11 0) (k11 1) (k6 2) src Q:=by
  intro Q hl hs pl pu hsrc hne hz h
  refine oe1 (id hl) ?_;intro o z0;refine oa3 z0 ?_;(try clear z0);intro ho hc z1;refine oe1 z1 ?_;(try clear z1);intro ne hd
  refine oe1 (id hsrc) ?_;intro o2 z0;refine oa3 z0 ?_;(try clear z0);intro ho2 hc2 z1;refine oe1 z1 ?_;(try clear z1);intro ne2 hd2
  refine oe1 (id hs) ?_;intro os z0;refine oa3 z0 ?_;(try clear z0);intro hos hcs hds
  have hTs:s.TypeIs (.ref (k6 2)) "slice" := ⟨os,hos,hcs⟩
  unfold setItem
  try with_reducible refine wpAny_holding ?_
  first | refine wpAny_bind (wpAny_pure ?_) | skip
  refine wpAny_bind (wpAny_sequenceKey hl.typeIs (by decide) ?_)
  refine wpAny_bind (wpAny_callSpecial?_slot (name:=ofString "__setitem__") hl.typeIs slot_list_setitem
    (wpAny_call_entry slot_list_setitem hl.typeIs entry_list_setitem ?_ (args_list_setitem _ _ _)))
  show wpAny _ _ (Builtin.List.listSubscript? (.ref (k6 2)) >>= _) _ _ s
  refine wpAny_bind ?_
  unfold Builtin.List.listSubscript?
  refine wpAny_bind (wpAny_specialOf hTs slice_no_index ?_)
  simp only [Option.isNone_none,if_true]
  refine wpAny_pure ?_
  show wpAny _ _ (typeOf (.ref (k6 2)) >>= _) _ _ s
  refine wpAny_bind (wpAny_typeOf hTs ?_)
  rw [if_neg (by decide)]
  rw [listSliceParts_eq]
  refine wpAny_bind (wpAny_bind (wpAny_field hos hds (x:=.none) rfl (wpAny_bind (wpAny_listPart .none ?_))))
  rw [if_neg (by decide)]
  refine wpAny_bind (wpAny_field hos hds (x:=vl) rfl (wpAny_bind (wpAny_listPart pl ?_)))
  refine wpAny_bind (wpAny_field hos hds (x:=vu) rfl (wpAny_bind (wpAny_listPart pu (wpAny_pure ?_))))
  rw [if_neg (by simpa [Builtin.List.listSameRef] using fun e:l=src=>hne e.symm)]
  refine wpAny_bind ?_
  unfold Builtin.List.listAllItems
  refine wpAny_bind (wpAny_typeOf hsrc.typeIs ?_)
  rw [if_pos (by decide)]
  refine wp_items ho2 hd2 ?_
  refine wpAny_bind (wp_items ho hd ?_)
  refine wpAny_bind (wpAny_of_eq (sliceIndices_raw (k11 0) (k11 1) none its.size (by simp)) ?_)
  rw [kms_bounds]
  dsimp only
  rw [if_pos (by decide)]
  refine wpAny_bind (wpAny_rule ?_)
  rw [if_neg (by simp [Builtin.List.listTooLong];omega)]
  unfold Builtin.List.listUpdate
  refine wpAny_bind (wpAny_updateSeq ho hd ?_ (by omega) ?_)
  · refine wpAny_bind (wpAny_letGo (wpAny_pure ⟨.none,rfl,wpAny_pure (h _ ?_)⟩))
    rw [toNat_max]
    rfl
  · rw [toNat_max]
    simp only [Array.size_append,Array.size_extract]
    exact cut_le hz
end Z2
theorem h_2:∀ j,j<2→∀ u,Pf j u:=histS 1 h_1 (gen 1 h_1 (by with_unfolding_all exact Z2.c_wp_setSlice))
theorem wp_setSlice {prog:Program} {w:World} {A:Around} {E:Value→Shared→Prop} {s:Shared} {l:Addr} {its new:Array Value} {vl vu:Value} {lo hi:Option Int} {sl src:Addr} {Q:Unit→Shared→Prop} : P_wp_setSlice prog w A E s l its new vl vu lo hi sl src Q:=by with_unfolding_all exact h_2 1 (Nat.lt_succ_self 1) (sk0 |>.set 0 0 prog |>.set 1 0 w |>.set 2 0 A |>.set 3 0 E |>.set 4 0 s |>.set 6 1 l |>.set 9 0 its |>.set 9 1 new |>.set 10 0 vl |>.set 10 1 vu |>.set 11 0 lo |>.set 11 1 hi |>.set 6 2 sl |>.set 6 3 src) Q
end
section
variable {prog:Program} {w:World} {A:Around} {E:Value→Shared→Prop} {s:Shared} {h₀:Heap} {L l:Addr} {m:Str→Option Value} {news:List (Addr × Obj)} {value slice:PySem.Expr} {its new:Array Value} {vl vu:Value} {lo hi:Option Int}
theorem kms_hi_le (hi:Option Int) (n:Nat) : kms_hi hi n≤n:=by
  cases hi with
  | none=>exact Nat.le_refl _
  | some y=>simp only [kms_hi];split <;> omega
theorem kms_lo_le (lo:Option Int) (n:Nat) : kms_lo lo n≤n:=by
  cases lo with
  | none=>exact Nat.zero_le _
  | some y=>simp only [kms_lo];split <;> omega
end
section
namespace Z2
theorem c_sl_store:∀ news Q,P_sl_store prog w A E s h₀ L l m its new vl vu (k11 0) (k11 1) src n (k12 1) (k13 0) news Q:=by
  intro news Q F N hm U hne pl pu hz hz2 h
  refine oe2 U.split ?_;intro pre post z0;refine oa4 z0 ?_;(try clear z0);intro z11 hu a b;obtain rfl:=z11
  have z:=N (l,listOf its n) (List.mem_append.mpr (.inr (.head _)))
  have hl:s.heap.IsList l its:=PySem.IsL.isList (n:=n) z.1
  have hs2:s.heap.IsList src new:=PySem.IsL.isList (n:=(k12 1)) (N _ hm).1
  refine wp_setSlice (s:={ s with heap:=s.heap.push { cls:=.type "slice",data:=.fields #[vl,vu,.none] } }) (hl.push _) (Heap.IsSliceOf.new ..) pl pu (hs2.push _) hne (by rw [sizeLine_eq];omega) fun f hf=>?_
  have F1:=F.push { cls:=.type "slice",data:=.fields #[vl,vu,.none] }
  have N1:News h₀ L (s.heap.push { cls:=.type "slice",data:=.fields #[vl,vu,.none] }) (pre++(l,listOf its n)::post):=N.grown fun _ _ e=>Heap.get?_push_of_some _ e
  refine h (f its) (if (f its).size == its.size then n else n+1) _ ?_ (F1.change (Heap.SameBut.update ..) z.2.1 z.2.2) ?_
  · rw [hf]
    have e1:=kms_lo_le (k11 0) its.size
    have e2:=kms_hi_le (k11 1) its.size
    simp only [Array.size_append,Array.size_extract]
    omega
  · rw [hu]
    exact ki_turn f N1 a b rfl rfl
end Z2
theorem h_3:∀ j,j<3→∀ u,Pf j u:=histS 2 h_2 (gen 2 h_2 (by with_unfolding_all exact Z2.c_sl_store))
theorem sl_store {prog:Program} {w:World} {A:Around} {E:Value→Shared→Prop} {s:Shared} {h₀:Heap} {L l:Addr} {m:Str→Option Value} {news:List (Prod Addr Obj)} {its new:Array Value} {vl vu:Value} {lo hi:Option Int} {src:Addr} {n n2:Nat} {u:Obj→List (Prod Addr Obj)} {Q:Unit→Shared→Prop} : P_sl_store prog w A E s h₀ L l m its new vl vu lo hi src n n2 u news Q:=by with_unfolding_all exact h_3 2 (Nat.lt_succ_self 2) (sk0 |>.set 0 0 prog |>.set 1 0 w |>.set 2 0 A |>.set 3 0 E |>.set 4 0 s |>.set 5 0 h₀ |>.set 6 0 L |>.set 6 1 l |>.set 7 0 m |>.set 9 0 its |>.set 9 1 new |>.set 10 0 vl |>.set 10 1 vu |>.set 11 0 lo |>.set 11 1 hi |>.set 6 3 src |>.set 12 0 n |>.set 12 1 n2 |>.set 13 0 u) news Q
end
end Mine
namespace Mine
theorem Take.mem {q:Addr × Obj} {l r:List (Addr × Obj)} (t:Take q l r) : ∀ p,p∈q::r→p∈l:=by
  induction t with
  | head=>exact fun _ h=>h
  | tail _ ih=>exact fun p h=>(List.mem_cons.mp h).elim (fun e=>.tail _ (ih p (e ▸ .head _))) fun h=>(List.mem_cons.mp h).elim (fun e=>e ▸ .head _) fun h=>.tail _ (ih p (.tail _ h))
theorem Pick.mem {l led rest:List (Addr × Obj)} (k:Pick l led rest) : ∀ p,p∈led++rest→p∈l:=by
  induction k with
  | nil=>exact fun _ h=>h
  | cons t _ ih=>exact fun p h=>(List.mem_cons.mp h).elim (fun e=>t.mem p (e ▸ .head _)) fun h=>t.mem p (.tail _ (ih p h))
theorem and4 {a0 a1 a2 a3 C:Prop} (h:a0∧a1∧a2∧a3) (k:a0→a1→a2→a3→C) : C:=k h.1 h.2.1 h.2.2.1 h.2.2.2
theorem and5 {a0 a1 a2 a3 a4 C:Prop} (h:a0∧a1∧a2∧a3∧a4) (k:a0→a1→a2→a3→a4→C) : C:=k h.1 h.2.1 h.2.2.1 h.2.2.2.1 h.2.2.2.2
theorem and6 {a0 a1 a2 a3 a4 a5 C:Prop} (h:a0∧a1∧a2∧a3∧a4∧a5) (k:a0→a1→a2→a3→a4→a5→C) : C:=k h.1 h.2.1 h.2.2.1 h.2.2.2.1 h.2.2.2.2.1 h.2.2.2.2.2
theorem and7 {a0 a1 a2 a3 a4 a5 a6 C:Prop} (h:a0∧a1∧a2∧a3∧a4∧a5∧a6) (k:a0→a1→a2→a3→a4→a5→a6→C) : C:=k h.1 h.2.1 h.2.2.1 h.2.2.2.1 h.2.2.2.2.1 h.2.2.2.2.2.1 h.2.2.2.2.2.2
theorem and8 {a0 a1 a2 a3 a4 a5 a6 a7 C:Prop} (h:a0∧a1∧a2∧a3∧a4∧a5∧a6∧a7) (k:a0→a1→a2→a3→a4→a5→a6→a7→C) : C:=k h.1 h.2.1 h.2.2.1 h.2.2.2.1 h.2.2.2.2.1 h.2.2.2.2.2.1 h.2.2.2.2.2.2.1 h.2.2.2.2.2.2.2
theorem and11 {a0 a1 a2 a3 a4 a5 a6 a7 a8 a9 a10 C:Prop} (h:a0∧a1∧a2∧a3∧a4∧a5∧a6∧a7∧a8∧a9∧a10) (k:a0→a1→a2→a3→a4→a5→a6→a7→a8→a9→a10→C) : C:=k h.1 h.2.1 h.2.2.1 h.2.2.2.1 h.2.2.2.2.1 h.2.2.2.2.2.1 h.2.2.2.2.2.2.1 h.2.2.2.2.2.2.2.1 h.2.2.2.2.2.2.2.2.1 h.2.2.2.2.2.2.2.2.2.1 h.2.2.2.2.2.2.2.2.2.2
theorem and12 {a0 a1 a2 a3 a4 a5 a6 a7 a8 a9 a10 a11 C:Prop} (h:a0∧a1∧a2∧a3∧a4∧a5∧a6∧a7∧a8∧a9∧a10∧a11) (k:a0→a1→a2→a3→a4→a5→a6→a7→a8→a9→a10→a11→C) : C:=k h.1 h.2.1 h.2.2.1 h.2.2.2.1 h.2.2.2.2.1 h.2.2.2.2.2.1 h.2.2.2.2.2.2.1 h.2.2.2.2.2.2.2.1 h.2.2.2.2.2.2.2.2.1 h.2.2.2.2.2.2.2.2.2.1 h.2.2.2.2.2.2.2.2.2.2.1 h.2.2.2.2.2.2.2.2.2.2.2
theorem and16 {a0 a1 a2 a3 a4 a5 a6 a7 a8 a9 a10 a11 a12 a13 a14 a15 C:Prop} (h:a0∧a1∧a2∧a3∧a4∧a5∧a6∧a7∧a8∧a9∧a10∧a11∧a12∧a13∧a14∧a15) (k:a0→a1→a2→a3→a4→a5→a6→a7→a8→a9→a10→a11→a12→a13→a14→a15→C) : C:=k h.1 h.2.1 h.2.2.1 h.2.2.2.1 h.2.2.2.2.1 h.2.2.2.2.2.1 h.2.2.2.2.2.2.1 h.2.2.2.2.2.2.2.1 h.2.2.2.2.2.2.2.2.1 h.2.2.2.2.2.2.2.2.2.1 h.2.2.2.2.2.2.2.2.2.2.1 h.2.2.2.2.2.2.2.2.2.2.2.1 h.2.2.2.2.2.2.2.2.2.2.2.2.1 h.2.2.2.2.2.2.2.2.2.2.2.2.2.1 h.2.2.2.2.2.2.2.2.2.2.2.2.2.2.1 h.2.2.2.2.2.2.2.2.2.2.2.2.2.2.2
theorem and17 {a0 a1 a2 a3 a4 a5 a6 a7 a8 a9 a10 a11 a12 a13 a14 a15 a16 C:Prop} (h:a0∧a1∧a2∧a3∧a4∧a5∧a6∧a7∧a8∧a9∧a10∧a11∧a12∧a13∧a14∧a15∧a16) (k:a0→a1→a2→a3→a4→a5→a6→a7→a8→a9→a10→a11→a12→a13→a14→a15→a16→C) : C:=k h.1 h.2.1 h.2.2.1 h.2.2.2.1 h.2.2.2.2.1 h.2.2.2.2.2.1 h.2.2.2.2.2.2.1 h.2.2.2.2.2.2.2.1 h.2.2.2.2.2.2.2.2.1 h.2.2.2.2.2.2.2.2.2.1 h.2.2.2.2.2.2.2.2.2.2.1 h.2.2.2.2.2.2.2.2.2.2.2.1 h.2.2.2.2.2.2.2.2.2.2.2.2.1 h.2.2.2.2.2.2.2.2.2.2.2.2.2.1 h.2.2.2.2.2.2.2.2.2.2.2.2.2.2.1 h.2.2.2.2.2.2.2.2.2.2.2.2.2.2.2.1 h.2.2.2.2.2.2.2.2.2.2.2.2.2.2.2.2
theorem and18 {a0 a1 a2 a3 a4 a5 a6 a7 a8 a9 a10 a11 a12 a13 a14 a15 a16 a17 C:Prop} (h:a0∧a1∧a2∧a3∧a4∧a5∧a6∧a7∧a8∧a9∧a10∧a11∧a12∧a13∧a14∧a15∧a16∧a17) (k:a0→a1→a2→a3→a4→a5→a6→a7→a8→a9→a10→a11→a12→a13→a14→a15→a16→a17→C) : C:=k h.1 h.2.1 h.2.2.1 h.2.2.2.1 h.2.2.2.2.1 h.2.2.2.2.2.1 h.2.2.2.2.2.2.1 h.2.2.2.2.2.2.2.1 h.2.2.2.2.2.2.2.2.1 h.2.2.2.2.2.2.2.2.2.1 h.2.2.2.2.2.2.2.2.2.2.1 h.2.2.2.2.2.2.2.2.2.2.2.1 h.2.2.2.2.2.2.2.2.2.2.2.2.1 h.2.2.2.2.2.2.2.2.2.2.2.2.2.1 h.2.2.2.2.2.2.2.2.2.2.2.2.2.2.1 h.2.2.2.2.2.2.2.2.2.2.2.2.2.2.2.1 h.2.2.2.2.2.2.2.2.2.2.2.2.2.2.2.2.1 h.2.2.2.2.2.2.2.2.2.2.2.2.2.2.2.2.2
theorem and19 {a0 a1 a2 a3 a4 a5 a6 a7 a8 a9 a10 a11 a12 a13 a14 a15 a16 a17 a18 C:Prop} (h:a0∧a1∧a2∧a3∧a4∧a5∧a6∧a7∧a8∧a9∧a10∧a11∧a12∧a13∧a14∧a15∧a16∧a17∧a18) (k:a0→a1→a2→a3→a4→a5→a6→a7→a8→a9→a10→a11→a12→a13→a14→a15→a16→a17→a18→C) : C:=k h.1 h.2.1 h.2.2.1 h.2.2.2.1 h.2.2.2.2.1 h.2.2.2.2.2.1 h.2.2.2.2.2.2.1 h.2.2.2.2.2.2.2.1 h.2.2.2.2.2.2.2.2.1 h.2.2.2.2.2.2.2.2.2.1 h.2.2.2.2.2.2.2.2.2.2.1 h.2.2.2.2.2.2.2.2.2.2.2.1 h.2.2.2.2.2.2.2.2.2.2.2.2.1 h.2.2.2.2.2.2.2.2.2.2.2.2.2.1 h.2.2.2.2.2.2.2.2.2.2.2.2.2.2.1 h.2.2.2.2.2.2.2.2.2.2.2.2.2.2.2.1 h.2.2.2.2.2.2.2.2.2.2.2.2.2.2.2.2.1 h.2.2.2.2.2.2.2.2.2.2.2.2.2.2.2.2.2.1 h.2.2.2.2.2.2.2.2.2.2.2.2.2.2.2.2.2.2
theorem and20 {a0 a1 a2 a3 a4 a5 a6 a7 a8 a9 a10 a11 a12 a13 a14 a15 a16 a17 a18 a19 C:Prop} (h:a0∧a1∧a2∧a3∧a4∧a5∧a6∧a7∧a8∧a9∧a10∧a11∧a12∧a13∧a14∧a15∧a16∧a17∧a18∧a19) (k:a0→a1→a2→a3→a4→a5→a6→a7→a8→a9→a10→a11→a12→a13→a14→a15→a16→a17→a18→a19→C) : C:=k h.1 h.2.1 h.2.2.1 h.2.2.2.1 h.2.2.2.2.1 h.2.2.2.2.2.1 h.2.2.2.2.2.2.1 h.2.2.2.2.2.2.2.1 h.2.2.2.2.2.2.2.2.1 h.2.2.2.2.2.2.2.2.2.1 h.2.2.2.2.2.2.2.2.2.2.1 h.2.2.2.2.2.2.2.2.2.2.2.1 h.2.2.2.2.2.2.2.2.2.2.2.2.1 h.2.2.2.2.2.2.2.2.2.2.2.2.2.1 h.2.2.2.2.2.2.2.2.2.2.2.2.2.2.1 h.2.2.2.2.2.2.2.2.2.2.2.2.2.2.2.1 h.2.2.2.2.2.2.2.2.2.2.2.2.2.2.2.2.1 h.2.2.2.2.2.2.2.2.2.2.2.2.2.2.2.2.2.1 h.2.2.2.2.2.2.2.2.2.2.2.2.2.2.2.2.2.2.1 h.2.2.2.2.2.2.2.2.2.2.2.2.2.2.2.2.2.2.2
theorem sbi {α:Type} {q:α} {a l:List α} (h:q∈a) (k:∀ p∈a,p∈l) : q∈l:=k q h
theorem sbn {α:Type} {l:List α} : ∀ p∈([] : List α),p∈l:=nofun
theorem sbr {α:Type} {l:List α} : ∀ p∈l,p∈l:=fun _ h=>h
theorem sba {α:Type} {a b l:List α} (h:∀ p∈a,p∈l) (k:∀ p∈b,p∈l) : ∀ p∈a++b,p∈l:=fun p hp=>(List.mem_append.mp hp).elim (h p) (k p)
theorem sbc {α:Type} {q:α} {a l:List α} (h:q∈l) (k:∀ p∈a,p∈l) : ∀ p∈q::a,p∈l:=fun p hp=>(List.mem_cons.mp hp).elim (fun e=>e ▸ h) (k p)
theorem sbk {α:Type} {q:α} {a l:List α} (k:∀ p∈a,p∈l) : ∀ p∈q::a,p∈q::l:=fun p hp=>(List.mem_cons.mp hp).elim (fun e=>e ▸ .head _) fun h=>.tail _ (k p h)
theorem sbt {α:Type} {q:α} {a l:List α} (k:∀ p∈a,p∈l) : ∀ p∈a,p∈q::l:=fun p hp=>.tail _ (k p hp)
theorem sbl {α:Type} {a b l:List α} (k:∀ p∈l,p∈a) : ∀ p∈l,p∈a++b:=fun p hp=>List.mem_append_left _ (k p hp)
theorem sbrr {α:Type} {a b l:List α} (k:∀ p∈l,p∈b) : ∀ p∈l,p∈a++b:=fun p hp=>List.mem_append_right _ (k p hp)
theorem sbx {α:Type} {q:α} {a b l:List α} (k:∀ p∈a++b,p∈l) : ∀ p∈a++q::b,p∈q::l:=fun p hp=>(List.mem_append.mp hp).elim (fun h=>.tail _ (k p (List.mem_append_left _ h))) fun h=>(List.mem_cons.mp h).elim (fun e=>e ▸ .head _) fun h=>.tail _ (k p (List.mem_append_right _ h))
theorem mt {α:Type} {q x:α} {l:List α} (h:q∈l) : q∈x::l:=.tail _ h
theorem mh {α:Type} {q:α} {l:List α} : q∈q::l:=.head _
theorem ml {α:Type} {q:α} {a b:List α} (h:q∈a) : q∈a++b:=List.mem_append_left _ h
theorem mr {α:Type} {q:α} {a b:List α} (h:q∈b) : q∈a++b:=List.mem_append_right _ h
theorem led_end {h₀ h:Heap} {L:Addr} {news led rest rest':List (Addr × Obj)} (P:Pick news led rest') (k:∀ q∈rest,q∈rest') (N:News h₀ L h news) : News h₀ L h (led++rest) :=
  fun q hq=>N q (P.mem q (List.mem_append.mpr ((List.mem_append.mp hq).imp id (k q))))
theorem Off.nil {wr:List Addr} : Off wr []:=fun _ h=>nomatch h
theorem Off.cons {wr:List Addr} {a:Addr} {o:Obj} {r:List (Addr × Obj)} (h:a ∉ wr) (k:Off wr r) : Off wr ((a,o)::r):=fun q hq=>by
  rcases List.mem_cons.mp hq with rfl | hq
  · exact h
  · exact k q hq
theorem ni_nil {a:Addr} : a ∉ ([] : List Addr):=fun h=>nomatch h
theorem ni_cons {a b:Addr} {r:List Addr} (h:a≠b) (k:a ∉ r) : a ∉ b::r:=fun e=>by
  rcases List.mem_cons.mp e with e | e
  · exact h e
  · exact k e
theorem Off.sub {wr wr':List Addr} {r:List (Addr × Obj)} (h:Off wr r) (k:∀ a∈wr',a∈wr) : Off wr' r:=fun q hq e=>h q hq (k _ e)
theorem Off.ne {wr:List Addr} {r:List (Addr × Obj)} (h:Off wr r) {d:Addr} (k:d∈wr) : ∀ q∈r,q.1≠d:=fun q hq e=>h q hq (e ▸ k)
theorem ne_obj {h₀ h:Heap} {L a b:Addr} {o o':Obj} {news:List (Addr × Obj)} (N:News h₀ L h news) (h1:(a,o)∈news) (h2:(b,o')∈news) (hne:o≠o') : a≠b:=by
  rintro rfl
  have e1:=(N _ h1).1
  have e2:=(N _ h2).1
  exact hne (Option.some.inj (e1.symm.trans e2))
theorem ne_cls {h₀ h:Heap} {L a b:Addr} {o o':Obj} {news:List (Addr × Obj)} (N:News h₀ L h news) (h1:(a,o)∈news) (h2:(b,o')∈news) (hne:(o.cls == o'.cls)=false) : @Ne Nat a b :=
  ne_obj N h1 h2 fun e=>by rw [e] at hne;simp at hne
theorem Spec.use {w:World} {f:Addr} {args:List Value} {dz:Nat} {led:List (Addr × Obj)} {wr:List Addr} {Post:Value→List (Addr × Obj)→Prop} (S:Spec w f args dz led wr Post)
    {p:Program} {loose:List Str} {mean:ExcName→Option Value} {mg mb:Str→Option Value} {dp un:Nat} {gd:Option (List Code)} {cn:Str} {cs:Scope} {a:Addr} {ccd:Value} {cl:List (Str × Addr)} {outer:List Env} {A₀:Around} {base h₀:Heap} {L:Addr} {m:Str→Option Value} {news rest:List (Addr × Obj)} {s:Shared} {Q E:Value→Shared→Prop}
    (B:Below A₀ base outer h₀) (F:Fr h₀ L s.heap m) (X:(Mine.hd.heap_1 w.params).In h₀) (N:News h₀ L s.heap news) (P:Pick news led rest) (hr:Off wr rest) (T:Top p loose mean mg mb h₀) (hk:cs.kind=.function) (hd:dp+dz<recursionLimit) (hu:un+8 * dz<cLine)
    (ret:∀ v led' h' tk',Post v led'→Fr h₀ L h' m→News h₀ L h' (led'++rest)→Q v { s with heap:=h',toks:=tk' }) :
    wpAny (model PySem.Challenge.rw_ok0063_01.prog w) (ktrTop dp un gd cn cs L a ccd cl outer) (call (.ref f) args) Q E s :=
  S p loose mean mg mb dp un gd cn cs a ccd cl outer A₀ base h₀ L m rest s Q E B F X (fun q hq=>N q (P.mem q hq)) hr T hk hd hu ret
theorem cut_read {x y:Int} {n:Nat} (h0:0≤x) (h1:x≤y) (h2:y≤n) : ((min y.toNat n-min x.toNat n:Nat) : Int)=y-x:=by
  refine oe1 (Int.eq_ofNat_of_zero_le h0) ?_;intro a z12;obtain rfl:=z12
  refine oe1 (Int.eq_ofNat_of_zero_le (Int.le_trans h0 h1)) ?_;intro b z13;obtain rfl:=z13
  have h3:=Int.ofNat_le.mp h1
  have h4:=Int.ofNat_le.mp h2
  rw [Int.toNat_natCast,Int.toNat_natCast,Nat.min_eq_left h4,Nat.min_eq_left (Nat.le_trans h3 h4),Int.ofNat_sub h3]
theorem cut_store {x y:Int} {n m:Nat} (h0:0≤x) (h1:x≤y) (h2:y≤n) : ((min x.toNat n+m+(n-max (min x.toNat n) (min y.toNat n)) : Nat) : Int)=n-(y-x)+m:=by
  refine oe1 (Int.eq_ofNat_of_zero_le h0) ?_;intro a z14;obtain rfl:=z14
  refine oe1 (Int.eq_ofNat_of_zero_le (Int.le_trans h0 h1)) ?_;intro b z15;obtain rfl:=z15
  have h3:=Int.ofNat_le.mp h1
  have h4:=Int.ofNat_le.mp h2
  rw [Int.toNat_natCast,Int.toNat_natCast,Nat.min_eq_left h4,Nat.min_eq_left (Nat.le_trans h3 h4),Nat.max_eq_right h3,Int.natCast_add,Int.natCast_add,Int.ofNat_sub h4]
  omega
section
variable {prog:Program} {w:World} {A:Around} {E:Value→Shared→Prop} {s:Shared} {h₀:Heap} {L l:Addr} {m:Str→Option Value} {news:List (Addr × Obj)} {value slice:PySem.Expr} {its new:Array Value} {x y:Int} {tx ty:Tok}
end
section
namespace Z2
theorem c_slb_read:∀ news x y,P_slb_read prog w A E s h₀ L l m (k8 0) (k8 1) its (k14 0) (k14 1) n Q news x y:=by
  intro news x y F N hm hz h0 h1 h2 h hs ht
  refine sl_read F N hm (.int x (k14 0)) (.int y (k14 1)) hz (fun D its' h' hz' e F' N' l1=>h D its' h' hz' ?_ F' N' l1) hs ht
  rw [e]
  simp only [kms_hi,kms_lo]
  rw [if_neg (Int.not_lt.mpr (Int.le_trans h0 h1)),if_neg (Int.not_lt.mpr h0)]
  exact cut_read h0 h1 h2
end Z2
theorem h_4:∀ j,j<4→∀ u,Pf j u:=histS 3 h_3 (gen 3 h_3 (by with_unfolding_all exact Z2.c_slb_read))
theorem slb_read {prog:Program} {w:World} {A:Around} {E:Value→Shared→Prop} {s:Shared} {h₀:Heap} {L l:Addr} {m:Str→Option Value} {news:List (Prod Addr Obj)} {value slice:PySem.Expr} {its:Array Value} {x y:Int} {tx ty:Tok} {n:Nat} {Q:Value→Shared→Prop} : P_slb_read prog w A E s h₀ L l m value slice its tx ty n Q news x y:=by with_unfolding_all exact h_4 3 (Nat.lt_succ_self 3) (sk0 |>.set 0 0 prog |>.set 1 0 w |>.set 2 0 A |>.set 3 0 E |>.set 4 0 s |>.set 5 0 h₀ |>.set 6 0 L |>.set 6 1 l |>.set 7 0 m |>.set 8 0 value |>.set 8 1 slice |>.set 9 0 its |>.set 14 0 tx |>.set 14 1 ty |>.set 12 0 n |>.set 3 1 Q) news x y
end
section
variable {prog:Program} {w:World} {A:Around} {E:Value→Shared→Prop} {s:Shared} {h₀:Heap} {L l:Addr} {m:Str→Option Value} {news:List (Addr × Obj)} {value slice:PySem.Expr} {its new:Array Value} {x y:Int} {tx ty:Tok}
end
section
namespace Z2
theorem c_slb_store:∀ news x y Q,P_slb_store prog w A E s h₀ L l m its new (k14 0) (k14 1) src n (k12 1) (k13 0) news x y Q:=by
  intro news x y Q F N hm U hne hz hz2 h0 h1 h2 h
  refine sl_store F N hm U hne (.int x (k14 0)) (.int y (k14 1)) hz hz2 (fun its' n' h' e F' N'=>h its' n' h' ?_ F' N')
  rw [e]
  simp only [kms_hi,kms_lo]
  rw [if_neg (Int.not_lt.mpr h0),if_neg (Int.not_lt.mpr (Int.le_trans h0 h1))]
  exact cut_store h0 h1 h2
end Z2
theorem h_5:∀ j,j<5→∀ u,Pf j u:=histS 4 h_4 (gen 4 h_4 (by with_unfolding_all exact Z2.c_slb_store))
theorem slb_store {prog:Program} {w:World} {A:Around} {E:Value→Shared→Prop} {s:Shared} {h₀:Heap} {L l:Addr} {m:Str→Option Value} {news:List (Prod Addr Obj)} {its new:Array Value} {x y:Int} {tx ty:Tok} {src:Addr} {n n2:Nat} {u:Obj→List (Prod Addr Obj)} {Q:Unit→Shared→Prop} : P_slb_store prog w A E s h₀ L l m its new tx ty src n n2 u news x y Q:=by with_unfolding_all exact h_5 4 (Nat.lt_succ_self 4) (sk0 |>.set 0 0 prog |>.set 1 0 w |>.set 2 0 A |>.set 3 0 E |>.set 4 0 s |>.set 5 0 h₀ |>.set 6 0 L |>.set 6 1 l |>.set 7 0 m |>.set 9 0 its |>.set 9 1 new |>.set 14 0 tx |>.set 14 1 ty |>.set 6 3 src |>.set 12 0 n |>.set 12 1 n2 |>.set 13 0 u) news x y Q
end
section
variable {prog:Program} {w:World} {A:Around} {E:Value→Shared→Prop} {s:Shared} {h₀:Heap} {L l:Addr} {m:Str→Option Value} {news:List (Addr × Obj)} {value slice:PySem.Expr} {its new:Array Value} {x y:Int} {tx ty:Tok}
theorem len_led {n:Nat} {Q:Value→Shared→Prop} (N:News h₀ L s.heap news) (hm:(l,listOf its n)∈news) (hz:its.size≤1000) (h:Q (.int its.size (s.toks+1)) { s with toks:=s.toks+1+1 }) :
    wpAny (model prog w) A (call (.builtin "len") [.ref l]) Q E s :=
  len_list (PySem.IsL.isList (n:=n) (N _ hm).1) (by omega) h
theorem cat_led {l2:Addr} {n n2:Nat} {Q:Value→Shared→Prop} (F:Fr h₀ L s.heap m) (N:News h₀ L s.heap news) (hm:(l,listOf its n)∈news) (hm2:(l2,listOf new n2)∈news) (hz:its.size≤1000) (hz2:new.size≤1000)
    (h:∀ D h',Fr h₀ L h' m→News h₀ L h' ((D,listOf (its++new) 0)::news)→(∀ p∈news,p.1<D)→Q (.ref D) { s with heap:=h' }) :
    wpAny (model prog w) A (binaryOp .Add (.ref l) (.ref l2)) Q E s :=
  PySem.P.add_list (n:=n) (n2:=n2) (N _ hm).1 (N _ hm2).1 (h _ _ (F.push _) (N.push F _) fun p hp=>Heap.lt_size (N p hp).1) (by rw [sizeLine_eq];omega)
end
end Mine
namespace Mine
theorem frL {h₀ h:Heap} {L:Addr} {l l':List (Str × Value)} (F:Fr h₀ L h fun y=>l.reverse.lookup y) (e:l.reverse=l') : Fr h₀ L h fun y=>l'.lookup y:=by
  subst e;exact F
section
variable {prog:Program} {w:World} {A A₀:Around} {s:Shared} {K:Frag} {L:Addr} {h₀ base:Heap} {m mg mb:Str→Option Value} {news:List (Addr × Obj)} {p:Program} {loose:List Str} {mean:ExcName→Option Value}
theorem enterZ (names:List Str) {vs:List Value} {l':List (Str × Value)} {env:Env} {outer:List Env} {R:Result→Shared→Prop} {name qual:Str} {params:Arguments} {body:List Stmt} {scope:Scope} {dV kV doc pm cdv ct oc:Value} {an od:Option Addr} {osl:Array (Option Value)} {f:Addr}
    (B:Below A₀ base outer h₀) (F:Fr h₀ L s.heap m) (X₀:K.In h₀) (N:News h₀ L s.heap news) (T:Top p loose mean mg mb h₀) (hA:A.frames=some (env::outer)) (hf:env.frame=some L) (hke:env.scope.kind=.function)
    (ho:K.lookup f=some ⟨oc,od,.func (fnOf name qual params body scope dV kV doc pm an cdv ct),osl⟩) (hcd:codeIn K cdv qual=true) (hroom:A.depth<recursionLimit)
    (hbind:bindArgs (fnOf name qual params body scope dV kV doc pm an cdv ct) ⟨vs,[]⟩=pure (names.zip vs)) (hloc:((names.zip vs).all fun x=>decide (scope.names.lookup x.1=some .local))=true) (hl':(names.zip vs).reverse=l')
    (h:∀ g L' h₁ tk,Fr h₀ L g m→Fr g L' h₁ (fun y=>l'.lookup y)→News g L' h₁ news→Below A base (env::outer) g→K.In g→Top p loose mean mg mb g →
      wpAny (model prog w) (A.deeper (envOf qual scope L' f cdv)) (execs body (envOf qual scope L' f cdv))
        (fun fl s'=>LeaveK h₀ L m g R (match fl with | .ret v=>v | _=>.none) s')
        (fun e s'=>wpAny (model prog w) (A.deeper (envOf qual scope L' f cdv)) (leaving (envOf qual scope L' f cdv) e) (fun _ s''=>R (.error e) s'') (fun e' s''=>R (.error e') s'') s')
        { s with heap:=h₁,toks:=tk })
    (hco:scope.isCoroutine=false) (hgen:scope.isGenerator=false) (hk:scope.kind=.function)
    (hcell:∀ x∈scope.names,x.2≠.cell) : codeAny (model prog w) A (.call (.ref f) ⟨vs,[]⟩) R s :=
  code_def B F X₀ N T hA hf hke ho hcd hroom (BindsTo.of_eq hbind) (locs hloc) (fun g L' h₁ F1 F2 N' B' X' T'=>h g L' h₁ _ F1 (hl' ▸ F2) N' B' X' T') hco hgen hk hcell
end
end Mine
namespace Mine
section
variable (w:World) {x dx c:Addr} {t1 t2 t3 t4 t5 t6 t7 t8:Tok} {its:Array Value} {n:Nat} {room gs ge:Int}
theorem gt_size (hz:its.size≤1000) : Spec w 111 [.ref x] 1 [(x,instObj 177 dx),(dx,gapD w t1 t2 t3 t4 (.int room t5) c (.int gs t6) (.int ge t7)),(c,listOf its n)] []
    (fun v led=>(∃ t,v=.int (its.size-ge+gs) t)∧led=[(x,instObj 177 dx),(dx,gapD w t1 t2 t3 t4 (.int room t5) c (.int gs t6) (.int ge t7)),(c,listOf its n)]):=by
  intro p loose mean mg mb dp un gd cn cs a ccd cl outer A₀ base h₀ L m rest s Q E B F X N hr T hk hd hu ret
  simp only [List.cons_append,List.nil_append] at N
  revert X;k_fill;intro X
  refine wpAny_call ?_
  k_dflt (refine' enterZ [ofString "self"] (l':=[(ofString "self",_)]) ?k1 ?k2 ?k3 ?k4 ?k5 ?kA ?kF ?kK ?k6 ?k7 ?k8 ?k9 ?kB ?kL ?_ ?c2 ?c3 ?c4 ?c5;k_extra "ez")
  k_steps
  exact ret _ _ _ _ ⟨⟨_,rfl⟩,rfl⟩ ‹_› ‹_›
end
section
namespace Z1
theorem c_gt_move:P_gt_move SpecC w x dx c t1 t2 t3 t4 t5 t6 (k14 8) (k14 9) its n (k15 0) gs ge at_:=by
  intro hz h0 h1 h2 h3 h4
  intro B F X N hr T hk hd hu ret
  simp only [List.cons_append,List.nil_append] at N
  have r1:=hr.ne (d:=dx) (by k_extra "mem")
  have r2:=hr.ne (d:=c) (by k_extra "mem")
  have n1:=ne_cls (a:=x) (b:=dx) N (by k_mem) (by k_mem) rfl
  have n2:=ne_cls (a:=x) (b:=c) N (by k_mem) (by k_mem) rfl
  have n3:=ne_cls (a:=dx) (b:=c) N (by k_mem) (by k_mem) rfl
  revert X;k_fill;intro X
  refine wpAny_call ?_
  k_dflt (refine' enterZ [ofString "self",ofString "at"] (l':=[(ofString "at",_),(ofString "self",_)]) ?k1 ?k2 ?k3 ?k4 ?k5 ?kA ?kF ?kK ?k6 ?k7 ?k8 ?k9 ?kB ?kL ?_ ?c2 ?c3 ?c4 ?c5;k_extra "ez")
  k_steps
  · rename News h₀ L _ _=>N9
    refine ret _ _ _ _ ⟨rfl,_,_,_,_,_,rfl,?_,?_⟩ ‹_› (fun q hq=>N9 q (.tail _ hq)) <;> omega
  · rename News h₀ L _ _=>N9
    refine ret _ _ _ _ ⟨rfl,_,_,_,_,_,rfl,?_,?_⟩ ‹_› (fun q hq=>N9 q (.tail _ hq)) <;> omega
end Z1
theorem h_6:∀ j,j<6→∀ u,Pf j u:=histS 5 h_5 (gen 5 h_5 (by with_unfolding_all exact Z1.c_gt_move))
theorem gt_move (w:World) {x dx c:Addr} {t1 t2 t3 t4 t5 t6 t7 t8:Tok} {its:Array Value} {n:Nat} {room gs ge at_:Int} : P_gt_move Spec w x dx c t1 t2 t3 t4 t5 t6 t7 t8 its n room gs ge at_:=fun hz h0 h1 h2 h3 h4 p loose mean mg mb dp un gd cn cs a ccd cl outer A₀ base h₀ L m rest s Q E=>by with_unfolding_all exact h_6 5 (Nat.lt_succ_self 5) (sk0 |>.set 1 0 w |>.set 6 4 x |>.set 6 5 dx |>.set 6 6 c |>.set 14 2 t1 |>.set 14 3 t2 |>.set 14 4 t3 |>.set 14 5 t4 |>.set 14 6 t5 |>.set 14 7 t6 |>.set 14 8 t7 |>.set 14 9 t8 |>.set 9 0 its |>.set 12 0 n |>.set 15 0 room |>.set 15 1 gs |>.set 15 2 ge |>.set 15 3 at_ |>.ctx p loose mean mg mb dp un gd cn cs a ccd cl outer A₀ base h₀ L m rest s Q E) hz h0 h1 h2 h3 h4
end
end Mine
namespace Mine
section
variable (w:World) {x dx c:Addr} {t1 t2 t3 t4 t5 t6 t7 t8 t9:Tok} {its:Array Value} {n:Nat} {room gs ge:Int}
end
section
namespace Z1
theorem c_gt_widen:P_gt_widen SpecC w x dx c t1 t2 t3 t4 t5 t6 (k14 8) (k14 9) its n (k15 0) gs ge k:=by
  intro hz h0 h1 h2 hk0 hk1 hr0 hr1
  intro B F X N hr T hk hd hu ret
  simp only [List.cons_append,List.nil_append] at N
  have r1:=hr.ne (d:=dx) (by k_extra "mem")
  have r2:=hr.ne (d:=c) (by k_extra "mem")
  have n1:=ne_cls (a:=x) (b:=dx) N (by k_mem) (by k_mem) rfl
  have n2:=ne_cls (a:=x) (b:=c) N (by k_mem) (by k_mem) rfl
  have n3:=ne_cls (a:=dx) (b:=c) N (by k_mem) (by k_mem) rfl
  revert X;k_fill;intro X
  refine wpAny_call ?_
  k_dflt (refine' enterZ [ofString "self",ofString "wanted"] (l':=[(ofString "wanted",_),(ofString "self",_)]) ?k1 ?k2 ?k3 ?k4 ?k5 ?kA ?kF ?kK ?k6 ?k7 ?k8 ?k9 ?kB ?kL ?_ ?c2 ?c3 ?c4 ?c5;k_extra "ez")
  k_steps
  · rename News h₀ L _ _=>N9
    refine ret _ _ _ _ ⟨rfl,_,_,_,_,_,rfl,by omega,by omega,by omega,by omega⟩ ‹_› (fun q hq=>N9 q (.tail _ (.tail _ hq)))
  · rename News h₀ L _ _=>N9
    refine ret _ _ _ _ ⟨rfl,_,_,_,_,_,rfl,by omega,by omega,by omega,by omega⟩ ‹_› N9
end Z1
theorem h_7:∀ j,j<7→∀ u,Pf j u:=histS 6 h_6 (gen 6 h_6 (by with_unfolding_all exact Z1.c_gt_widen))
theorem gt_widen (w:World) {x dx c:Addr} {t1 t2 t3 t4 t5 t6 t7 t8:Tok} {its:Array Value} {n:Nat} {room gs ge k:Int} : P_gt_widen Spec w x dx c t1 t2 t3 t4 t5 t6 t7 t8 its n room gs ge k:=fun hz h0 h1 h2 hk0 hk1 hr0 hr1 p loose mean mg mb dp un gd cn cs a ccd cl outer A₀ base h₀ L m rest s Q E=>by with_unfolding_all exact h_7 6 (Nat.lt_succ_self 6) (sk0 |>.set 1 0 w |>.set 6 4 x |>.set 6 5 dx |>.set 6 6 c |>.set 14 2 t1 |>.set 14 3 t2 |>.set 14 4 t3 |>.set 14 5 t4 |>.set 14 6 t5 |>.set 14 7 t6 |>.set 14 8 t7 |>.set 14 9 t8 |>.set 9 0 its |>.set 12 0 n |>.set 15 0 room |>.set 15 1 gs |>.set 15 2 ge |>.set 15 4 k |>.ctx p loose mean mg mb dp un gd cn cs a ccd cl outer A₀ base h₀ L m rest s Q E) hz h0 h1 h2 hk0 hk1 hr0 hr1
end
end Mine
namespace Mine
section
variable (w:World) {x dx c:Addr} {t1 t2 t3 t4 t5 t6 t7 t8 t9:Tok} {its:Array Value} {n:Nat} {room gs ge:Int}
theorem kw22_1:True:=by
  k_with "call ref" => ((fail_if_success have:=@e22_1);k_here;(with_reducible show wpAny _ _ (call (Value.ref 139) _) _ _ _);k_dflt (refine' Spec.use (gt_widen _ ?y0 ?y1 ?y2 ?y3 ?y4 ?y5 ?y6 ?y7) ?B ?F ?X ?N ?P ?hr ?T ?hk ?hd ?hu ?_;k_extra "us1";(case y0=>omega);(case y1=>omega);(case y2=>omega);(case y3=>omega);(case y4=>omega);(case y5=>omega);(case y6=>omega);(case y7=>omega);(case hr=>k_extra "h2");k_whole);intro v9 led9 h' tk' hP9;refine oa2 hP9 ?_;(try clear hP9);intro hv9 z0;refine oe5 z0 ?_;(try clear z0);intro its9 n9 u91 u92 ge9 z1;refine oa5 z1 ?_;(try clear z1);intro hl9 e91 e92 e93 e94;subst hv9;subst hl9;intro F' N';k_extra "nn")
  k_with "call ref" => ((fail_if_success have:=@e22_1);k_here;(with_reducible show wpAny _ _ (call (Value.ref 132) _) _ _ _);k_dflt (refine' Spec.use (gt_move _ ?y0 ?y1 ?y2 ?y3 ?y4 ?y5) ?B ?F ?X ?N ?P ?hr ?T ?hk ?hd ?hu ?_;k_extra "us1";(case y0=>omega);(case y1=>omega);(case y2=>omega);(case y3=>omega);(case y4=>omega);(case y5=>omega);(case hr=>k_extra "h2");k_whole);intro v9 led9 h' tk' hP9;refine oa2 hP9 ?_;(try clear hP9);intro hv9 z0;refine oe5 z0 ?_;(try clear z0);intro its9 n9 u91 u92 ge9 z1;refine oa3 z1 ?_;(try clear z1);intro hl9 e91 e92;subst hv9;subst hl9;intro F' N';k_extra "nn")
  trivial
end
section
namespace Z1
theorem c_gt_insert:P_gt_insert SpecC w x dx c t1 t2 t3 t4 t5 t6 (k14 8) (k14 9) its n (k15 0) gs ge at_ (k6 7) (k9 2) nc:=by
  intro hz h0 h1 h2 h3 h4 hk1 hr0 hr1 hlc
  intro B F X N hr T hk hd hu ret
  simp only [List.cons_append,List.nil_append] at N
  have r1:=hr.ne (d:=dx) (by k_extra "mem")
  have r2:=hr.ne (d:=c) (by k_extra "mem")
  have n1:=ne_cls (a:=x) (b:=dx) N (by k_mem) (by k_mem) rfl
  have n2:=ne_cls (a:=x) (b:=c) N (by k_mem) (by k_mem) rfl
  have n3:=ne_cls (a:=dx) (b:=c) N (by k_mem) (by k_mem) rfl
  have n4:=ne_cls (a:=(k6 7)) (b:=dx) N (by k_mem) (by k_mem) rfl
  revert X;k_fill;intro X
  refine wpAny_call ?_
  k_dflt (refine' enterZ [ofString "self",ofString "at",ofString "codes"] (l':=[(ofString "codes",_),(ofString "at",_),(ofString "self",_)]) ?k1 ?k2 ?k3 ?k4 ?k5 ?kA ?kF ?kK ?k6 ?k7 ?k8 ?k9 ?kB ?kL ?_ ?c2 ?c3 ?c4 ?c5;k_extra "ez")
  k_steps
  all_goals (
    rename News h₀ L _ _=>N9
    refine' ret _ _ _ _ ⟨rfl,_,_,_,_,_,_,rfl,?f⟩ ?F (led_end ?P ?S N9)
    k_extra "pk"
    (case S=>(intro q h;simp only [List.mem_cons,h,or_true]))
    (case F=>assumption)
    (case f=>(refine ⟨?_,?_,?_,?_,?_⟩ <;> omega)))
end Z1
theorem h_8:∀ j,j<8→∀ u,Pf j u:=histS 7 h_7 (gen 7 h_7 (by with_unfolding_all exact Z1.c_gt_insert))
theorem gt_insert (w:World) {x dx c:Addr} {t1 t2 t3 t4 t5 t6 t7 t8:Tok} {its:Array Value} {n:Nat} {room gs ge at_:Int} {lc:Addr} {cs_:Array Value} {nc:Nat} : P_gt_insert Spec w x dx c t1 t2 t3 t4 t5 t6 t7 t8 its n room gs ge at_ lc cs_ nc:=fun hz h0 h1 h2 h3 h4 hk1 hr0 hr1 hlc p loose mean mg mb dp un gd cn cs a ccd cl outer A₀ base h₀ L m rest s Q E=>by with_unfolding_all exact h_8 7 (Nat.lt_succ_self 7) (sk0 |>.set 1 0 w |>.set 6 4 x |>.set 6 5 dx |>.set 6 6 c |>.set 14 2 t1 |>.set 14 3 t2 |>.set 14 4 t3 |>.set 14 5 t4 |>.set 14 6 t5 |>.set 14 7 t6 |>.set 14 8 t7 |>.set 14 9 t8 |>.set 9 0 its |>.set 12 0 n |>.set 15 0 room |>.set 15 1 gs |>.set 15 2 ge |>.set 15 3 at_ |>.set 6 7 lc |>.set 9 2 cs_ |>.set 12 2 nc |>.ctx p loose mean mg mb dp un gd cn cs a ccd cl outer A₀ base h₀ L m rest s Q E) hz h0 h1 h2 h3 h4 hk1 hr0 hr1 hlc
theorem e22_1:True:=trivial
end
end Mine
namespace Mine
section
variable (w:World) {x dx c:Addr} {t1 t2 t3 t4 t5 t6 t7 t8 t9:Tok} {its:Array Value} {n:Nat} {room gs ge:Int}
end
section
namespace Z1
theorem c_gt_codes:P_gt_codes SpecC w x dx c t1 t2 t3 t4 t5 t6 (k14 8) (k14 9) t9 its n (k15 0) gs ge (k15 5) b0:=by
  intro hz h0 h1 h2 h3 h4 h5
  intro B F X N hr T hk hd hu ret
  simp only [List.cons_append,List.nil_append] at N
  have n1:=ne_cls (a:=x) (b:=dx) N (by k_mem) (by k_mem) rfl
  have n2:=ne_cls (a:=x) (b:=c) N (by k_mem) (by k_mem) rfl
  have n3:=ne_cls (a:=dx) (b:=c) N (by k_mem) (by k_mem) rfl
  revert X;k_fill;intro X
  refine wpAny_call ?_
  k_dflt (refine' enterZ [ofString "self",ofString "start",ofString "end"] (l':=[(ofString "end",_),(ofString "start",_),(ofString "self",_)]) ?k1 ?k2 ?k3 ?k4 ?k5 ?kA ?kF ?kK ?k6 ?k7 ?k8 ?k9 ?kB ?kL ?_ ?c2 ?c3 ?c4 ?c5;k_extra "ez")
  k_steps
  all_goals (
    rename News h₀ L _ _=>N9
    refine' ret _ _ _ _ ⟨⟨_,rfl⟩,rfl⟩ ?F (led_end ?P ?S N9)
    k_extra "pk"
    (case S=>(intro q h;simp only [List.mem_cons,h,or_true]))
    (case F=>assumption))
end Z1
theorem h_9:∀ j,j<9→∀ u,Pf j u:=histS 8 h_8 (gen 8 h_8 (by with_unfolding_all exact Z1.c_gt_codes))
theorem gt_codes (w:World) {x dx c:Addr} {t1 t2 t3 t4 t5 t6 t7 t8 t9:Tok} {its:Array Value} {n:Nat} {room gs ge a0 b0:Int} : P_gt_codes Spec w x dx c t1 t2 t3 t4 t5 t6 t7 t8 t9 its n room gs ge a0 b0:=fun hz h0 h1 h2 h3 h4 h5 p loose mean mg mb dp un gd cn cs a ccd cl outer A₀ base h₀ L m rest s Q E=>by with_unfolding_all exact h_9 8 (Nat.lt_succ_self 8) (sk0 |>.set 1 0 w |>.set 6 4 x |>.set 6 5 dx |>.set 6 6 c |>.set 14 2 t1 |>.set 14 3 t2 |>.set 14 4 t3 |>.set 14 5 t4 |>.set 14 6 t5 |>.set 14 7 t6 |>.set 14 8 t7 |>.set 14 9 t8 |>.set 14 10 t9 |>.set 9 0 its |>.set 12 0 n |>.set 15 0 room |>.set 15 1 gs |>.set 15 2 ge |>.set 15 5 a0 |>.set 15 6 b0 |>.ctx p loose mean mg mb dp un gd cn cs a ccd cl outer A₀ base h₀ L m rest s Q E) hz h0 h1 h2 h3 h4 h5
theorem kw23_1:True:=by
  k_with "call ref" => ((fail_if_success have:=@e23_1);k_here;(with_reducible show wpAny _ _ (call (Value.ref 125) _) _ _ _);k_dflt (refine' Spec.use (gt_codes _ ?y0 ?y1 ?y2 ?y3 ?y4 ?y5 ?y6) ?B ?F ?X ?N ?P ?hr ?T ?hk ?hd ?hu ?_;k_extra "us1";(case y0=>omega);(case y1=>omega);(case y2=>omega);(case y3=>omega);(case y4=>omega);(case y5=>omega);(case y6=>omega);(case hr=>k_extra "h2");k_whole);intro v9 led9 h' tk' hP9;refine oa2 hP9 ?_;(try clear hP9);intro z16 hl9;refine oe1 z16 ?_;(try clear z16);intro r9 hv9;subst hv9;subst hl9;intro F' N';k_extra "nn")
  k_with "call ref" => ((fail_if_success have:=@e23_1);k_here;(with_reducible show wpAny _ _ (call (Value.ref 132) _) _ _ _);k_dflt (refine' Spec.use (gt_move _ ?y0 ?y1 ?y2 ?y3 ?y4 ?y5) ?B ?F ?X ?N ?P ?hr ?T ?hk ?hd ?hu ?_;k_extra "us1";(case y0=>omega);(case y1=>omega);(case y2=>omega);(case y3=>omega);(case y4=>omega);(case y5=>omega);(case hr=>k_extra "h2");k_whole);intro v9 led9 h' tk' hP9;refine oa2 hP9 ?_;(try clear hP9);intro hv9 z0;refine oe5 z0 ?_;(try clear z0);intro its9 n9 u91 u92 ge9 z1;refine oa3 z1 ?_;(try clear z1);intro hl9 e91 e92;subst hv9;subst hl9;intro F' N';k_extra "nn")
  trivial
end
section
namespace Z1
theorem c_gt_delete:P_gt_delete SpecC w x dx c t1 t2 t3 t4 t5 t6 (k14 8) (k14 9) t9 its n (k15 0) gs ge (k15 5) b0:=by
  intro hz h0 h1 h2 h3 h4 h5
  intro B F X N hr T hk hd hu ret
  simp only [List.cons_append,List.nil_append] at N
  have r1:=hr.ne (d:=dx) (by k_extra "mem")
  have r2:=hr.ne (d:=c) (by k_extra "mem")
  have n1:=ne_cls (a:=x) (b:=dx) N (by k_mem) (by k_mem) rfl
  have n2:=ne_cls (a:=x) (b:=c) N (by k_mem) (by k_mem) rfl
  have n3:=ne_cls (a:=dx) (b:=c) N (by k_mem) (by k_mem) rfl
  revert X;k_fill;intro X
  refine wpAny_call ?_
  k_dflt (refine' enterZ [ofString "self",ofString "start",ofString "end"] (l':=[(ofString "end",_),(ofString "start",_),(ofString "self",_)]) ?k1 ?k2 ?k3 ?k4 ?k5 ?kA ?kF ?kK ?k6 ?k7 ?k8 ?k9 ?kB ?kL ?_ ?c2 ?c3 ?c4 ?c5;k_extra "ez")
  k_steps
  all_goals (
    rename News h₀ L _ _=>N9
    refine' ret _ _ _ _ ⟨⟨_,rfl⟩,_,_,_,_,_,_,rfl,?f⟩ ?F (led_end ?P ?S N9)
    k_extra "pk"
    (case S=>(intro q h;simp only [List.mem_cons,h,or_true]))
    (case F=>assumption)
    (case f=>(refine ⟨?_,?_,?_,?_,?_⟩ <;> omega)))
end Z1
theorem h_10:∀ j,j<10→∀ u,Pf j u:=histS 9 h_9 (gen 9 h_9 (by with_unfolding_all exact Z1.c_gt_delete))
theorem gt_delete (w:World) {x dx c:Addr} {t1 t2 t3 t4 t5 t6 t7 t8 t9:Tok} {its:Array Value} {n:Nat} {room gs ge a0 b0:Int} : P_gt_delete Spec w x dx c t1 t2 t3 t4 t5 t6 t7 t8 t9 its n room gs ge a0 b0:=fun hz h0 h1 h2 h3 h4 h5 p loose mean mg mb dp un gd cn cs a ccd cl outer A₀ base h₀ L m rest s Q E=>by with_unfolding_all exact h_10 9 (Nat.lt_succ_self 9) (sk0 |>.set 1 0 w |>.set 6 4 x |>.set 6 5 dx |>.set 6 6 c |>.set 14 2 t1 |>.set 14 3 t2 |>.set 14 4 t3 |>.set 14 5 t4 |>.set 14 6 t5 |>.set 14 7 t6 |>.set 14 8 t7 |>.set 14 9 t8 |>.set 14 10 t9 |>.set 9 0 its |>.set 12 0 n |>.set 15 0 room |>.set 15 1 gs |>.set 15 2 ge |>.set 15 5 a0 |>.set 15 6 b0 |>.ctx p loose mean mg mb dp un gd cn cs a ccd cl outer A₀ base h₀ L m rest s Q E) hz h0 h1 h2 h3 h4 h5
theorem e23_1:True:=trivial
end
end Mine
namespace Mine
theorem Take.back {q:Addr × Obj} {l r:List (Addr × Obj)} (t:Take q l r) : ∀ p,p∈l→p∈q::r:=by
  induction t with
  | head=>exact fun _ h=>h
  | tail _ ih=>exact fun p h=>(List.mem_cons.mp h).elim (fun e=>e ▸ .tail _ (.head _)) fun h=>(List.mem_cons.mp (ih p h)).elim (fun e=>e ▸ .head _) fun h=>.tail _ (.tail _ h)
theorem Pick.back {l led rest:List (Addr × Obj)} (k:Pick l led rest) : ∀ p,p∈l→p∈led++rest:=by
  induction k with
  | nil=>exact fun _ h=>h
  | cons t _ ih=>exact fun p h=>(List.mem_cons.mp (t.back p h)).elim (fun e=>e ▸ .head _) fun h=>.tail _ (ih p h)
theorem SpecF.use {w:World} {f:Addr} {args:List Value} {dz:Nat} {led:List (Addr × Obj)} {wr:List Addr} {Post:Value→List (Addr × Obj)→List Addr→Prop} (S:SpecF w f args dz led wr Post)
    {p:Program} {loose:List Str} {mean:ExcName→Option Value} {mg mb:Str→Option Value} {dp un:Nat} {gd:Option (List Code)} {cn:Str} {cs:Scope} {a:Addr} {ccd:Value} {cl:List (Str × Addr)} {outer:List Env} {A₀:Around} {base h₀:Heap} {L:Addr} {m:Str→Option Value} {news rest:List (Addr × Obj)} {s:Shared} {Q E:Value→Shared→Prop}
    (B:Below A₀ base outer h₀) (F:Fr h₀ L s.heap m) (X:(Mine.hd.heap_1 w.params).In h₀) (N:News h₀ L s.heap news) (P:Pick news led rest) (hr:Off wr rest) (T:Top p loose mean mg mb h₀) (hk:cs.kind=.function) (hd:dp+dz<recursionLimit) (hu:un+8 * dz<cLine)
    (ret:∀ v led' fr h' tk',Post v led' fr→(∀ d∈fr,∀ q∈news,q.1<d)→Fr h₀ L h' m→News h₀ L h' (led'++rest)→Q v { s with heap:=h',toks:=tk' }) :
    wpAny (model PySem.Challenge.rw_ok0063_01.prog w) (ktrTop dp un gd cn cs L a ccd cl outer) (call (.ref f) args) Q E s :=
  S p loose mean mg mb dp un gd cn cs a ccd cl outer A₀ base h₀ L m rest s Q E B F X (fun q hq=>N q (P.mem q hq)) hr T hk hd hu fun v led' fr h' tk' hP hf=>ret v led' fr h' tk' hP fun d hd q hq=>hf d hd q (P.back q hq)
section
variable {prog:Program} {w:World} {A:Around} {E:Value→Shared→Prop} {s:Shared} {h₀:Heap} {L r:Addr} {m:Str→Option Value} {news:List (Addr × Obj)} {o:Obj} {kvs:List (Int × Value)}
theorem sorted_rows {Q:Value→Shared→Prop} (hh:A.handled=none) (F:Fr h₀ L s.heap m) (N:News h₀ L s.heap news) (hm:(r,o)∈news) (hd:o.IsDictOf (PySem.intKind prog w) kvs) (lo:(r == sysModules)=false) (hz:kvs.length≤8)
    (h:∀ D vs' ns' c h' tk,Fr h₀ L h' m→News h₀ L h' ((D,PySem.W.listOf (List.toArray vs') c)::news)→(∀ q∈news,q.1<D)→IntsAre vs' ns'→ns'.Perm (kvs.map (·.1))→ns'.Pairwise (·≤·)→Q (.ref D) { s with heap:=h',toks:=tk }) :
    wpAny (model prog w) A (call (.builtin "sorted") [.ref r]) Q E s:=by
  have hD:=kda_dict N hm hd
  refine oe1 hD.dictAt ?_;intro ep hat
  refine kdu_sorted (kdl_dict (knd:=PySem.intKind prog w) (kvs:=kvs) (ep:=ep) lo) hh F N hat (by rw [sizeLine_eq];omega) fun B h' tk vs F' N' l1 hl hv=>?_
  have hi:IntsAre vs (kvs.map (·.1)):=by
    refine kdy_ints (by rw [hl,List.length_map]) fun j u hu=>?_
    refine oe2 (hv j u hu) ?_;intro k x z0;refine oa2 z0 ?_;(try clear z0);intro hx hk
    refine ⟨k,by rw [List.getElem?_map,hx];rfl,?_⟩
    have hk':Value.isInt k u=true:=hk
    cases u <;> first | exact absurd hk' Bool.false_ne_true | skip
    rename_i i t
    have:i=k:=by simpa [Value.isInt] using hk'
    exact ⟨t,by rw [this]⟩
  refine ksk_lsort (D:=B) (its:=vs.toArray) (n:=0) (news':=fun o=>(B,o)::news) F' N' (fun o=>Upd.head fun q hq=>Nat.ne_of_lt (l1 q hq)) (by simp) hi (by rw [List.length_map];omega) fun vs' ns' c h'' F'' N'' hi' _ hp ho _=>?_
  exact h B vs' ns' c h'' tk F'' N'' l1 hi' hp ho
variable {i:Int} {t:Tok} {v:Value} {g:Obj→List (Addr × Obj)} {value slice:PySem.Expr}
theorem rows_in {Q:Value→Shared→Prop} (N:News h₀ L s.heap news) (hm:(r,o)∈news) (hd:o.IsDictOf (PySem.intKind prog w) kvs) (lo:(r == sysModules)=false) (hv:valueAt kvs i=some v) (h:Q (.bool true) { s with toks:=s.toks+1 }) :
    wpAny (model prog w) A (compareOp .In (.int i t) (.ref r)) Q E s:=kda_in N hm hd lo (PySem.intKind_is _ _ _ _) true (by rw [hv];rfl) h
theorem rows_get {Q:Value→Shared→Prop} (N:News h₀ L s.heap news) (hm:(r,o)∈news) (hd:o.IsDictOf (PySem.intKind prog w) kvs) (hv:valueAt kvs i=some v) (h:Q v { s with toks:=s.toks+1 })
    (hs:subscripted slice false (.ref r) (.int i t)=operate [.ref r,.int i t] (getItem (.ref r) (.int i t))) (hg:∀ z,letTemporaryGo value (.ref r) z=pure ()) :
    wpAny (model prog w) A (subscriptTail value slice (.ref r) (.int i t)) Q E s:=kda_item N hm hd (PySem.intKind_is _ _ _ _) hv h hs hg
theorem rows_set {Q:Unit→Shared→Prop} (F:Fr h₀ L s.heap m) (N:News h₀ L s.heap news) (U:UpdF r o news g) (hd:o.IsDictOf (PySem.intKind prog w) kvs) (hz:kvs.length≤8)
    (h:∀ h' o',Fr h₀ L h' m→News h₀ L h' (g o')→o'.IsDictOf (PySem.intKind prog w) (stored kvs i v)→Q () { s with heap:=h',toks:=s.toks+1 }) :
    wpAny (model prog w) A (setItem (.ref r) (.int i t) v) Q E s:=kda_set F N U hd (PySem.intKind_is _ _ _ _) (by rw [sizeLine_eq];omega) h
theorem rows_meth {pl:Sem Bool} {Q:Value × List Value→Shared→Prop} (N:News h₀ L s.heap news) (hm:(r,o)∈news) (hd:o.IsDictOf (PySem.intKind prog w) kvs) (h:Q (.builtin "dict.pop",[.ref r]) s) :
    wpAny (model prog w) A (getMethod (.ref r) (ofString "pop") pl) Q E s:=kob_method PySem.F.slot_dict_pop PySem.F.type_dict_pop N hm hd h
theorem rows_pop {Q:Value→Shared→Prop} (F:Fr h₀ L s.heap m) (N:News h₀ L s.heap news) (U:UpdF r o news g) (hd:o.IsDictOf (PySem.intKind prog w) kvs) (hz:kvs.length≤8) (hv:valueAt kvs i=some v)
    (h:∀ h' o',Fr h₀ L h' m→News h₀ L h' (g o')→o'.IsDictOf (PySem.intKind prog w) (without kvs i)→Q v { s with heap:=h',toks:=s.toks+1 }) :
    wpAny (model prog w) A (call (.builtin "dict.pop") [.ref r,.int i t]) Q E s :=
  kob_pop (more:=[]) F N U hd (PySem.intKind_is _ _ _ _) (.inl rfl) rfl (PySem.F.args_dict_pop_2 _ _) hv (by rw [sizeLine_eq];omega) h
theorem rows_ne {b:Addr} {o':Obj} (hd:o.IsDictOf (PySem.intKind prog w) kvs) (N:News h₀ L s.heap news) (hm:(r,o)∈news) (h2:(b,o')∈news) (hne:(match o'.data with | .dict es _=>(match es.toList with | e::_=>(match e.key with | .str ..=>true | _=>false) | _=>false) | .plain=>true | .seq ..=>true | _=>false)=true) : @Ne Nat r b:=by
  refine ne_obj N hm h2 ?_
  rintro rfl
  refine oe2 hd ?_;(try clear hd);intro es ep z0;refine oa5 z0 ?_;(try clear z0);intro _ hdat _ hp _
  rw [hdat] at hne
  dsimp only at hne
  cases hes:es.toList with
  | nil=>rw [hes] at hne;cases hne
  | cons e r =>
    rw [hes] at hne hp
    cases hp with
    | cons h1 _ _ =>
      have h1':Value.isInt _ e.key=true:=h1
      dsimp only at hne
      cases hk:e.key <;> rw [hk] at hne h1' <;> first | exact absurd hne Bool.false_ne_true | exact absurd h1' Bool.false_ne_true
theorem ne_len {a b:Addr} {es es':List DictEntry} {n n':Nat} (N:News h₀ L s.heap news) (h1:(a,dictOf es n)∈news) (h2:(b,dictOf es' n')∈news) (hne:(es.length == es'.length)=false) : @Ne Nat a b:=by
  refine ne_obj N h1 h2 fun e=>?_
  have e1:Data.dict es.toArray n=Data.dict es'.toArray n':=congrArg Obj.data e
  have e2:es.toArray=es'.toArray:=by injection e1
  have e3:es.length=es'.length:=by have:=congrArg Array.size e2;simpa using this
  rw [e3] at hne
  simp at hne
end
end Mine
namespace Mine
section
variable (w:World) {k kd r x xd:Addr} {o:Obj} {kvs:List (Int × Value)} {t1 t2 t3 t4 t5 t6 t7 t8 t9:Tok} {i p0 p1:Int} {b:Value}
theorem mk_numbers (hro:IsRows w o kvs) (lo:(r == sysModules)=false) (hz:kvs.length≤8) :
    SpecF w 277 [.ref k] 1 [(k,instObj 322 kd),(kd,rowsD w t1 r),(r,o)] []
    (fun v led fr=>∃ D vs ns c,v=.ref D∧led=[(D,listOf (List.toArray vs) c),(k,instObj 322 kd),(kd,rowsD w t1 r),(r,o)]∧fr=[D]∧IntsAre vs ns∧ns.Perm (kvs.map (·.1))∧ns.Pairwise (·≤·)):=by
  intro p loose mean mg mb dp un gd cn cs a ccd cl outer A₀ base h₀ L m rest s Q E B F X N hr T hk hd hu ret
  simp only [List.cons_append,List.nil_append] at N
  revert X;k_fill;intro X
  refine wpAny_call ?_
  k_dflt (refine' enterZ [ofString "self"] (l':=[(ofString "self",_)]) ?k1 ?k2 ?k3 ?k4 ?k5 ?kA ?kF ?kK ?k6 ?k7 ?k8 ?k9 ?kB ?kL ?_ ?c2 ?c3 ?c4 ?c5;k_extra "ez")
  k_steps
  rename News h₀ L _ _=>N9
  rename IntsAre _ _=>i9
  rename List.Perm _ _=>p9
  rename List.Pairwise _ _=>o9
  refine ret _ _ _ _ _ ⟨_,_,_,_,rfl,rfl,rfl,i9,p9,o9⟩ ?_ ‹_› N9
  intro d hd q hq
  rw [List.mem_singleton.mp hd]
  rename _∧_∧_∧AllLt _ _=>l9
  exact @ktn_ltOf _ ([(k,instObj 322 kd),(kd,rowsD w t1 r),(r,o)]++rest) l9 q hq
end
section
namespace Z1
theorem c_mk_put:∀ k,P_mk_put SpecC w kd r x (k6 10) o kvs t1 t2 t3 t4 t5 t6 (k14 8) t9 i p0 (k15 9) b k:=by
  intro k hro hz
  intro B F X N hr T hk hd hu ret
  simp only [List.cons_append,List.nil_append] at N
  have r_r:=hr.ne (d:=r) (by k_extra "mem")
  have r_xd:=hr.ne (d:=(k6 10)) (by k_extra "mem")
  have l0:=ne_len (a:=kd) (b:=(k6 10)) N (by k_mem) (by k_mem) rfl
  have n0:=ne_cls (a:=k) (b:=kd) N (by k_mem) (by k_mem) rfl
  have n1:=ne_cls (a:=k) (b:=(k6 10)) N (by k_mem) (by k_mem) rfl
  have n2:=ne_cls (a:=x) (b:=kd) N (by k_mem) (by k_mem) rfl
  have n3:=ne_cls (a:=x) (b:=(k6 10)) N (by k_mem) (by k_mem) rfl
  have m0:=rows_ne (r:=r) (b:=k) hro N (by k_mem) (by k_mem) rfl
  have m1:=rows_ne (r:=r) (b:=kd) hro N (by k_mem) (by k_mem) rfl
  have m2:=rows_ne (r:=r) (b:=x) hro N (by k_mem) (by k_mem) rfl
  have m3:=rows_ne (r:=r) (b:=(k6 10)) hro N (by k_mem) (by k_mem) rfl
  revert X;k_fill;intro X
  refine wpAny_call ?_
  k_dflt (refine' enterZ [ofString "self",ofString "marker",ofString "position"] (l':=[(ofString "position",_),(ofString "marker",_),(ofString "self",_)]) ?k1 ?k2 ?k3 ?k4 ?k5 ?kA ?kF ?kK ?k6 ?k7 ?k8 ?k9 ?kB ?kL ?_ ?c2 ?c3 ?c4 ?c5;k_extra "ez")
  k_steps
  rename News h₀ L _ _=>N9
  rename IsRows _ _ _=>i9
  exact ret _ _ _ _ ⟨rfl,_,_,rfl,i9⟩ ‹_› N9
end Z1
theorem h_11:∀ j,j<11→∀ u,Pf j u:=histS 10 h_10 (gen 10 h_10 (by with_unfolding_all exact Z1.c_mk_put))
theorem mk_put (w:World) {k kd r x xd:Addr} {o:Obj} {kvs:List (Prod Int Value)} {t1 t2 t3 t4 t5 t6 t7 t9:Tok} {i p0 p1:Int} {b:Value} : P_mk_put Spec w kd r x xd o kvs t1 t2 t3 t4 t5 t6 t7 t9 i p0 p1 b k:=fun hro hz p loose mean mg mb dp un gd cn cs a ccd cl outer A₀ base h₀ L m rest s Q E=>by with_unfolding_all exact h_11 10 (Nat.lt_succ_self 10) (sk0 |>.set 1 0 w |>.set 6 8 kd |>.set 6 9 r |>.set 6 4 x |>.set 6 10 xd |>.set 16 0 o |>.set 17 0 kvs |>.set 14 2 t1 |>.set 14 3 t2 |>.set 14 4 t3 |>.set 14 5 t4 |>.set 14 6 t5 |>.set 14 7 t6 |>.set 14 8 t7 |>.set 14 10 t9 |>.set 15 7 i |>.set 15 8 p0 |>.set 15 9 p1 |>.set 10 2 b |>.ctx p loose mean mg mb dp un gd cn cs a ccd cl outer A₀ base h₀ L m rest s Q E) k hro hz
end
section
namespace Z1
theorem c_mk_drop:∀ k,P_mk_drop SpecC w kd r x (k6 10) o kvs t1 t2 t3 t4 t5 t6 (k14 8) i p0 b (k10 3) k:=by
  intro k hro hz lo hv
  intro B F X N hr T hk hd hu ret
  simp only [List.cons_append,List.nil_append] at N
  have r_r:=hr.ne (d:=r) (by k_extra "mem")
  have n0:=ne_cls (a:=k) (b:=kd) N (by k_mem) (by k_mem) rfl
  have n1:=ne_cls (a:=k) (b:=(k6 10)) N (by k_mem) (by k_mem) rfl
  have n2:=ne_cls (a:=x) (b:=kd) N (by k_mem) (by k_mem) rfl
  have n3:=ne_cls (a:=x) (b:=(k6 10)) N (by k_mem) (by k_mem) rfl
  have m0:=rows_ne (r:=r) (b:=k) hro N (by k_mem) (by k_mem) rfl
  have m1:=rows_ne (r:=r) (b:=kd) hro N (by k_mem) (by k_mem) rfl
  have m2:=rows_ne (r:=r) (b:=x) hro N (by k_mem) (by k_mem) rfl
  have m3:=rows_ne (r:=r) (b:=(k6 10)) hro N (by k_mem) (by k_mem) rfl
  revert X;k_fill;intro X
  refine wpAny_call ?_
  k_dflt (refine' enterZ [ofString "self",ofString "marker"] (l':=[(ofString "marker",_),(ofString "self",_)]) ?k1 ?k2 ?k3 ?k4 ?k5 ?kA ?kF ?kK ?k6 ?k7 ?k8 ?k9 ?kB ?kL ?_ ?c2 ?c3 ?c4 ?c5;k_extra "ez")
  k_steps
  rename News h₀ L _ _=>N9
  rename IsRows _ _ _=>i9
  exact ret _ _ _ _ ⟨rfl,_,rfl,i9⟩ ‹_› N9
end Z1
theorem h_12:∀ j,j<12→∀ u,Pf j u:=histS 11 h_11 (gen 11 h_11 (by with_unfolding_all exact Z1.c_mk_drop))
theorem mk_drop (w:World) {k kd r x xd:Addr} {o:Obj} {kvs:List (Prod Int Value)} {t1 t2 t3 t4 t5 t6 t7:Tok} {i p0:Int} {b v0:Value} : P_mk_drop Spec w kd r x xd o kvs t1 t2 t3 t4 t5 t6 t7 i p0 b v0 k:=fun hro hz lo hv p loose mean mg mb dp un gd cn cs a ccd cl outer A₀ base h₀ L m rest s Q E=>by with_unfolding_all exact h_12 11 (Nat.lt_succ_self 11) (sk0 |>.set 1 0 w |>.set 6 8 kd |>.set 6 9 r |>.set 6 4 x |>.set 6 10 xd |>.set 16 0 o |>.set 17 0 kvs |>.set 14 2 t1 |>.set 14 3 t2 |>.set 14 4 t3 |>.set 14 5 t4 |>.set 14 6 t5 |>.set 14 7 t6 |>.set 14 8 t7 |>.set 15 7 i |>.set 15 8 p0 |>.set 10 2 b |>.set 10 3 v0 |>.ctx p loose mean mg mb dp un gd cn cs a ccd cl outer A₀ base h₀ L m rest s Q E) k hro hz lo hv
end
end Mine
namespace Mine
theorem ids_iff {i:Int} : i∈ids ↔ 0≤i∧i<4:=by
  constructor
  · intro h
    rcases List.mem_cons.mp h with rfl | h
    · decide
    · rcases List.mem_cons.mp h with rfl | h
      · decide
      · rcases List.mem_cons.mp h with rfl | h
        · decide
        · rcases List.mem_cons.mp h with rfl | h
          · decide
          · cases h
  · rintro ⟨h1,h2⟩
    match i,h1 with
    | .ofNat n,_ =>
      have:n<4:=Int.ofNat_lt.mp h2
      match n,this with
      | 0,_ | 1,_ | 2,_ | 3,_=>decide
theorem ids4 {i:Int} (h:i∈ids) : i=0∨i=1∨i=2∨i=3:=by
  rcases List.mem_cons.mp h with h | h
  · exact .inl h
  · rcases List.mem_cons.mp h with h | h
    · exact .inr (.inl h)
    · rcases List.mem_cons.mp h with h | h
      · exact .inr (.inr (.inl h))
      · exact .inr (.inr (.inr (List.mem_singleton.mp h)))
theorem sides2 {i:Int} (h:i∈sides) : i=0∨i=1:=by
  rcases List.mem_cons.mp h with h | h
  · exact .inl h
  · exact .inr (List.mem_singleton.mp h)
theorem sides_iff {i:Int} : i∈sides ↔ 0≤i∧i<2:=by
  constructor
  · intro h
    rcases sides2 h with rfl | rfl <;> decide
  · intro ⟨h,k⟩
    obtain ⟨n,rfl⟩:=Int.eq_ofNat_of_zero_le h
    have k:n<2:=Int.ofNat_lt.mp k
    match n,k with
    | 0,_=>exact .head _
    | 1,_=>exact .tail _ (.head _)
theorem ids_nodup:ids.Nodup:=by decide
theorem sides_nodup:sides.Nodup:=by decide
theorem setB_same {E:Int→Led} {i:Int} {l:Led} : setB E i l i=l:=if_pos rfl
theorem setB_other {E:Int→Led} {i j:Int} {l:Led} (h:j≠i) : setB E i l j=E j:=if_neg h
theorem blk_iff {I:List Int} {E:Int→Led} {i:Int} (hi:i∈I) (p:Addr × Obj) : p∈I.flatMap E ↔ p∈E i++blkO I E i:=by
  simp only [blkO,List.mem_flatMap,List.mem_append,List.mem_filter,decide_eq_true_eq]
  constructor
  · rintro ⟨j,hj,hp⟩
    by_cases e:j=i
    · exact .inl (e ▸ hp)
    · exact .inr ⟨j,⟨hj,e⟩,hp⟩
  · rintro (h | ⟨j,⟨hj,_⟩,hp⟩)
    · exact ⟨i,hi,h⟩
    · exact ⟨j,hj,hp⟩
theorem blkO_set {I:List Int} {E:Int→Led} {i:Int} {l:Led} : blkO I (setB E i l) i=blkO I E i:=by
  unfold blkO
  rw [List.flatMap_def,List.flatMap_def]
  congr 1
  apply List.map_congr_left
  intro j hj
  exact setB_other (by simpa using (List.mem_filter.mp hj).2)
theorem News.sub {h₀ h:Heap} {L:Addr} {l l':Led} (N:News h₀ L h l) (k:∀ p∈l',p∈l) : News h₀ L h l':=fun p hp=>N p (k p hp)
theorem nodup_lt {l:List Nat} (h:l.Pairwise (·≠·)) : l.Nodup:=h
theorem pw_c {a b:Nat} {l:List Nat} (h:a<b) (k:(b::l).Pairwise (·<·)) : (a::b::l).Pairwise (·<·) :=
  List.pairwise_cons.mpr ⟨fun x hx=>(List.mem_cons.mp hx).elim (fun e=>e ▸ h) fun hx=>Nat.lt_trans h ((List.pairwise_cons.mp k).1 x hx),k⟩
theorem pw_1 {a:Nat} : [a].Pairwise (·<·):=List.pairwise_cons.mpr ⟨nofun,.nil⟩
theorem pw_first {a:Nat} {l:List Nat} (h:(a::l).Pairwise (·<·)) : ∀ x∈a::l,a≤x:=fun x hx=>by
  rcases List.mem_cons.mp hx with rfl | hx
  · exact Nat.le_refl _
  · exact Nat.le_of_lt ((List.pairwise_cons.mp h).1 x hx)
theorem pw_last {l:List Nat} {z:Nat} (h:(l++[z]).Pairwise (·<·)) : ∀ x∈l++[z],x≤z:=fun x hx=>by
  rcases List.mem_append.mp hx with hx | hx
  · exact Nat.le_of_lt ((List.pairwise_append.mp h).2.2 x hx z (.head _))
  · rcases List.mem_cons.mp hx with rfl | hx
    · exact Nat.le_refl _
    · cases hx
theorem pw_get {l:List Nat} (h:l.Pairwise (·<·)) {m n:Nat} (hm:m<n) (hn:n<l.length) : l.getD m 0<l.getD n 0:=by
  have hm':m<l.length:=Nat.lt_trans hm hn
  rw [List.getD_eq_getElem?_getD,List.getD_eq_getElem?_getD,List.getElem?_eq_getElem hn,List.getElem?_eq_getElem hm']
  exact List.pairwise_iff_getElem.mp h m n hm' hn hm
theorem pw_ne {l:List Nat} (h:l.Pairwise (·<·)) {m n:Nat} (hm:m<l.length∧n<l.length∧m≠n) : l.getD m 0≠l.getD n 0:=by
  rcases Nat.lt_or_gt_of_ne hm.2.2 with q | q
  · exact Nat.ne_of_lt (pw_get h q hm.2.1)
  · exact Nat.ne_of_gt (pw_get h q hm.1)
theorem Ad.Ok.pwb {A:Ad} (ok:A.Ok) {j:Int} (hj:j∈sides) : (A.bk j).Pairwise (·<·):=by
  refine and8 (ok.blk j hj) ?_;intro c1 c2 c3 c4 c5 c6 c7 c8
  exact pw_c c1 (pw_c c2 (pw_c c3 (pw_c c4 (pw_c c5 (pw_c c6 (pw_c c7 (pw_c c8 pw_1)))))))
theorem Ad.Ok.pwm {A:Ad} (ok:A.Ok) : A.mks.Pairwise (·<·):=by
  refine oa7 ok.ord ?_;intro c1 c2 c3 c4 c5 c6 c7
  exact pw_c c1 (pw_c c2 (pw_c c3 (pw_c c4 (pw_c c5 (pw_c c6 (pw_c c7 pw_1))))))
theorem Ad.bkp (A:Ad) (j:Int) : List.Perm (α:=Nat) (A.bAd j) (A.bk j) :=
  .trans (.swap _ _ _) (.cons _ (.cons _ (.trans (.swap _ _ _) (.cons _ (.cons _ (.cons _ (.trans (.swap _ _ _) (.refl _))))))))
theorem Ad.mkp (A:Ad) : List.Perm (α:=Nat) (ids.flatMap A.mAd) A.mks :=
  .trans (.swap _ _ _) (.cons _ (.cons _ (.trans (.swap _ _ _) (.cons _ (.cons _ (.trans (.swap _ _ _) (.cons _ (.cons _ (.trans (.swap _ _ _) (.refl _))))))))))
theorem Ad.Ok.bkne {A:Ad} (ok:A.Ok) {j:Int} (hj:j∈sides) (m n:Nat) (h:m<9∧n<9∧m≠n) : @Ne Nat ((A.bk j).getD m 0) ((A.bk j).getD n 0):=pw_ne (ok.pwb hj) h
theorem bAd_lo {A:Ad} (ok:A.Ok) {j:Int} (hj:j∈sides) : ∀ a∈A.bAd j,@LE.le Nat _ (A.bd j) a∧@LE.le Nat _ a (A.ls j):=fun a ha =>
  have h:=(A.bkp j).mem_iff.mp ha
  ⟨pw_first (ok.pwb hj) a h,pw_last (l:=[A.bd j,A.b j,A.td j,A.t j,A.c j,A.kd j,A.k j,A.r j]) (ok.pwb hj) a h⟩
theorem mAd_lo {A:Ad} (ok:A.Ok) : ∀ a∈ids.flatMap A.mAd,@LE.le Nat _ (A.md 0) a:=fun a ha=>pw_first ok.pwm a (A.mkp.mem_iff.mp ha)
theorem pw_nd {l:List Nat} (h:l.Pairwise (·<·)) : l.Nodup:=h.imp fun q=>Nat.ne_of_lt q
theorem Ad.Ok.ndm {A:Ad} (ok:A.Ok) : (ids.flatMap A.mAd).Nodup:=A.mkp.nodup_iff.mpr (pw_nd ok.pwm)
theorem Ad.Ok.ndb {A:Ad} (ok:A.Ok) : (sides.flatMap A.bAd).Nodup:=by
  have h:(A.bAd 0++A.bAd 1).Nodup:=List.nodup_append.mpr ⟨(A.bkp 0).nodup_iff.mpr (pw_nd (ok.pwb (by decide))),(A.bkp 1).nodup_iff.mpr (pw_nd (ok.pwb (by decide))),fun a ha b hb e =>
    Nat.lt_irrefl a (Nat.lt_of_le_of_lt (bAd_lo ok (by decide) a ha).2 (Nat.lt_of_lt_of_le ok.two (e ▸ (bAd_lo ok (by decide) b hb).1)))⟩
  exact h
theorem Ad.Ok.apart {A:Ad} (ok:A.Ok) : ∀ a∈sides.flatMap A.bAd,∀ b∈ids.flatMap A.mAd,@LT.lt Nat _ a b:=fun a ha b hb=>by
  have l1 : @LE.le Nat _ a (A.ls 1):=by
    have ha':a∈A.bAd 0++A.bAd 1:=ha
    rcases List.mem_append.mp ha' with h | h
    · exact Nat.le_trans (bAd_lo ok (by decide) a h).2 (Nat.le_of_lt (Nat.lt_of_lt_of_le ok.two (bAd_lo ok (j:=1) (by decide) (A.ls 1) (by simp [Ad.bAd])).1))
    · exact (bAd_lo ok (by decide) a h).2
  exact Nat.lt_of_le_of_lt l1 (Nat.lt_of_lt_of_le ok.marks (mAd_lo ok b hb))
theorem MkOk.adr {w:World} {A:Ad} {i hm ps:Int} {l:Led} (h:MkOk w A i hm ps l) : l.map (·.1)=A.mAd i:=by
  obtain ⟨_,_,_,_,_,_,rfl⟩:=h
  rfl
theorem flatMap_adr {I:List Int} {E:Int→Led} {f:Int→List Addr} (h:∀ i∈I,(E i).map (·.1)=f i) : (I.flatMap E).map (·.1)=I.flatMap f:=by
  rw [List.map_flatMap,List.flatMap_def,List.flatMap_def]
  congr 1
  exact List.map_congr_left h
theorem off_blk {I:List Int} {E:Int→Led} {f:Int→List Addr} (nd:(I.flatMap f).Nodup) (h:∀ i∈I,(E i).map (·.1)=f i) {i:Int} (hi:i∈I) : Off (f i) (blkO I E i):=by
  intro q hq hm
  simp only [blkO,List.mem_flatMap,List.mem_filter,decide_eq_true_eq] at hq
  refine oe1 hq ?_;(try clear hq);intro j z0;refine oa2 z0 ?_;(try clear z0);intro z17 hq;refine oa2 z17 ?_;(try clear z17);intro hj hne
  have hq1:q.1∈f j:=by rw [← h j hj];exact List.mem_map.mpr ⟨q,hq,rfl⟩
  have pw:=(List.pairwise_flatMap.mp nd).2
  have hall:∀ a∈I,∀ b∈I,a≠b→∀ x∈f a,∀ y∈f b,x≠y:=by
    intro a ha b hb hab x hx y hy
    rcases Nat.lt_trichotomy (I.idxOf a) (I.idxOf b) with hlt | heq | hgt
    · have:=List.pairwise_iff_getElem.mp pw (I.idxOf a) (I.idxOf b) (List.idxOf_lt_length_of_mem ha) (List.idxOf_lt_length_of_mem hb) hlt
      rw [List.getElem_idxOf,List.getElem_idxOf] at this
      exact this x hx y hy
    · exact absurd (by have h1:=List.getElem_idxOf (List.idxOf_lt_length_of_mem ha);have h2:=List.getElem_idxOf (List.idxOf_lt_length_of_mem hb);rw [← h1,← h2];congr 1) hab
    · have:=List.pairwise_iff_getElem.mp pw (I.idxOf b) (I.idxOf a) (List.idxOf_lt_length_of_mem hb) (List.idxOf_lt_length_of_mem ha) hgt
      rw [List.getElem_idxOf,List.getElem_idxOf] at this
      exact fun e=>this y hy x hx e.symm
  exact hall j hj i hi hne q.1 hq1 q.1 hm rfl
theorem Off.none {r:Led} : Off [] r:=fun _ _ h=>nomatch h
theorem Off.append {wr:List Addr} {a b:Led} (h:Off wr a) (k:Off wr b) : Off wr (a++b):=fun q hq=>(List.mem_append.mp hq).elim (h q) (k q)
theorem Stop.intro {P:Prop} (h:Stop P) : P:=h
theorem Stop.out {P:Prop} (h:P) : Stop P:=h
end Mine
namespace Mine
theorem valueAt_of {kvs:List (Int × Value)} {i:Int} {v:Value} (h:(i,v)∈kvs) (nd:(kvs.map (·.1)).Nodup) : valueAt kvs i=some v:=by
  induction kvs with
  | nil=>cases h
  | cons p r ih =>
    obtain ⟨a,b⟩:=p
    rw [List.map_cons,List.nodup_cons] at nd
    rcases List.mem_cons.mp h with e | h
    · cases e
      simp [valueAt]
    · have:a≠i:=fun e=>nd.1 (e ▸ List.mem_map.mpr ⟨(i,v),h,rfl⟩)
      have hv:=ih h nd.2
      unfold valueAt at hv ⊢
      rw [List.find?_cons_of_neg (by simpa using this)]
      exact hv
theorem rows_nd {prog:Program} {w:World} {o:Obj} {kvs:List (Int × Value)} (h:o.IsDictOf (PySem.intKind prog w) kvs) : (kvs.map (·.1)).Nodup:=by
  refine oe2 h ?_;(try clear h);intro _ _ z0;refine oa5 z0 ?_;(try clear z0);intro _ _ _ _ nd
  exact nd
section
variable {prog:Program} {w:World} {A0:Around} {E0:Value→Shared→Prop} {s:Shared} {env:Env} {h₀:Heap} {x y:Str} {body:List Stmt} {Q:Flow→Shared→Prop}
end
section
namespace Z2
theorem c_marks_loop:∀ Q A I pos E rest c,P_marks_loop prog w (k2 1) (k3 2) s env h₀ (k19 0) (k19 1) (k20 0) home (k22 0) (k6 11) vs ns (k17 0) j (k7 1) f Q A I pos E rest c:=by
  intro Q A I pos E rest c hh hi hp nd hk ndm hM F N ho1 ho2 turn done
  have mem:∀ i,i∈ns ↔ i∈I∧home i=j:=fun i=>by
    rw [hp.mem_iff,List.mem_map]
    constructor
    · rintro ⟨⟨a,b⟩,hm,rfl⟩
      exact ⟨((hk _ _).mp hm).1,((hk _ _).mp hm).2.1⟩
    · rintro ⟨h1,h2⟩
      exact ⟨(i,.ref (A.ma i)),(hk _ _).mpr ⟨h1,h2,rfl⟩,rfl⟩
  have ndn:ns.Nodup:=hp.nodup_iff.mpr nd
  have hadr:∀ {E':Int→Led} {ps:Int→Int},Marks w A I home ps E'→(I.flatMap E').map (·.1)=I.flatMap A.mAd:=fun h=>flatMap_adr fun i hi=>(h i hi).adr
  refine iter_invNL (l:=(k6 11)) (vs:=vs) (ns:=ns) (nn:=c) (news:=((k6 11),listOf vs.toArray c)::((k22 0)++(I.flatMap E++rest)))
    (fun n m nx=>(∀ z,z≠(k19 0)→z≠(k19 1)→m z=(k7 1) z)∧∃ E',nx=((k6 11),listOf vs.toArray c)::((k22 0)++(I.flatMap E'++rest))∧Marks w A I home (upTo ns n f pos) E')
    hh (.head _) hi F N ⟨fun _ _ _=>rfl,E,rfl,by rw [show upTo ns 0 f pos=pos from funext fun a=>if_neg (by simp)];exact hM⟩ ?_ ?_
  · rintro n i t m₁ news₁ h tk own hn _ hown _ ⟨hm,E',rfl,hM'⟩ F' N'
    have hin:i∈ns:=List.mem_of_getElem? hn
    refine oa2 ((mem i).mp hin) ?_;intro hi1 hi2
    have hnot:i ∉ ns.take n:=by
      intro hmem
      refine oe1 (List.mem_iff_getElem.mp hmem) ?_;intro k z0;refine oe1 z0 ?_;(try clear z0);intro hk1 hk2
      rw [List.length_take] at hk1
      rw [List.getElem_take] at hk2
      refine oe1 (List.getElem?_eq_some_iff.mp hn) ?_;intro hn1 hn2
      have:=(List.getElem_inj (h₀:=by omega) (h₁:=hn1) ndn).mp (hk2.trans hn2.symm)
      omega
    obtain ⟨t1,t2,t3,t4,t5,t6,hE⟩:=hM' i hi1
    have hup:upTo ns n f pos i=pos i:=if_neg hnot
    rw [hup] at hE
    have hmd:∀ q∈(E' i),q.1∈A.mAd i:=fun q hq=>by rw [← (hM' i hi1).adr];exact List.mem_map.mpr ⟨q,hq,rfl⟩
    have hsub:∀ a∈A.mAd i,a∈I.flatMap A.mAd:=fun a ha=>List.mem_flatMap.mpr ⟨i,hi1,ha⟩
    have hoO:Off (A.mAd i) (blkO I E' i):=off_blk ndm (fun j hj=>(hM' j hj).adr) hi1
    have hoW:Off (A.mAd i) own:=fun q hq hm'=>hown q hq q.1 (by
      rw [List.map_cons,List.map_append,List.map_append,hadr hM]
      exact .tail _ (List.mem_append.mpr (.inr (List.mem_append.mpr (.inl (hsub _ hm')))))) rfl
    have hval:valueAt (k17 0) i=some (.ref (A.ma i)):=valueAt_of ((hk _ _).mpr ⟨hi1,hi2,rfl⟩) nd
    have hne:A.ma i≠A.md i:=by
      have:=(List.pairwise_flatMap.mp ndm).1 i hi1
      simpa [Ad.mAd] using this
    have e1:(fun z=>if z=(k19 0) then some (Value.int i t) else m₁ z)=fun z=>if z=(k19 0) then some (Value.int i t) else if z=(k19 1) then m₁ z else (k7 1) z:=by
      funext z
      by_cases h1:z=(k19 0)
      · simp [h1]
      · by_cases h2:z=(k19 1)
        · simp [h2]
        · simp only [if_neg h1,if_neg h2];exact hm z h1 h2
    rw [e1] at F'
    have N2:News h₀ env.locals h (((k6 11),listOf vs.toArray c)::((k22 0)++((A.ma i,instObj 254 (A.md i))::(A.md i,mkD w t1 t2 t3 t4 (.int i t5) (bufV A (home i)) (.int (pos i) t6))::(blkO I E' i++(rest++own))))):=by
      refine News.sub N' fun p hp=>?_
      have hb:=blk_iff (E:=E') hi1 p
      rw [hE] at hb
      simp only [List.mem_cons,List.mem_append,List.cons_append,List.nil_append] at hp hb ⊢
      rcases hp with h | h | h | h | h | h | h
      · exact .inl h
      · exact .inr (.inl (.inl h))
      · exact .inr (.inl (.inr (.inl (hb.mpr (.inl h)))))
      · exact .inr (.inl (.inr (.inl (hb.mpr (.inr (.inl h))))))
      · exact .inr (.inl (.inr (.inl (hb.mpr (.inr (.inr h))))))
      · exact .inr (.inl (.inr (.inr h)))
      · exact .inr (.inr h)
    refine wpAny_mono (turn i (pos i) t t1 t2 t3 t4 t5 t6 m₁ h tk _ hi1 hi2 hval (ho1.sub hsub) (hoO.append ((ho2.sub hsub).append hoW)) hne F' N2) (fun fl s' hfl=>?_) fun _ _ e=>e
    refine oa2 hfl ?_;(try clear hfl);intro z18 z0;obtain rfl:=z18;refine oe4 z0 ?_;(try clear z0);intro h' tk' m' t6' z1;refine oa4 z1 ?_;(try clear z1);intro z19 F3 hm3 N3;obtain rfl:=z19
    have hblk:setB E' i [(A.ma i,instObj 254 (A.md i)),(A.md i,mkD w t1 t2 t3 t4 (.int i t5) (bufV A (home i)) (.int (f (pos i)) t6'))] i=_:=setB_same
    have hM3:Marks w A I home (upTo ns (n+1) f pos) (setB E' i [(A.ma i,instObj 254 (A.md i)),(A.md i,mkD w t1 t2 t3 t4 (.int i t5) (bufV A (home i)) (.int (f (pos i)) t6'))]):=by
      intro a ha
      have ht:ns.take (n+1)=ns.take n++[i]:=by rw [List.take_add_one,hn];rfl
      by_cases e:a=i
      · subst e
        rw [setB_same]
        refine ⟨t1,t2,t3,t4,t5,t6',?_⟩
        have:upTo ns (n+1) f pos a=f (pos a):=if_pos (by rw [ht];simp)
        rw [this]
      · rw [setB_other e]
        have:upTo ns (n+1) f pos a=upTo ns n f pos a:=by
          unfold upTo
          rw [ht]
          simp [e]
        rw [this]
        exact hM' a ha
    refine ⟨h',tk',m',_,((k6 11),listOf vs.toArray c)::((k22 0)++(I.flatMap (setB E' i [(A.ma i,instObj 254 (A.md i)),(A.md i,mkD w t1 t2 t3 t4 (.int i t5) (bufV A (home i)) (.int (f (pos i)) t6'))])++rest)),rfl,F3,N3,?_,?_,?_,.head _,hm3,_,rfl,hM3⟩
    · intro p hp
      have hb:=blk_iff (E:=setB E' i [(A.ma i,instObj 254 (A.md i)),(A.md i,mkD w t1 t2 t3 t4 (.int i t5) (bufV A (home i)) (.int (f (pos i)) t6'))]) hi1 p
      rw [setB_same,blkO_set] at hb
      simp only [List.mem_cons,List.mem_append,List.cons_append,List.nil_append] at hp hb ⊢
      rcases hp with h | h | h | h
      · exact .inl h
      · exact .inr (.inl h)
      · rcases hb.mp h with h | h | h
        · exact .inr (.inr (.inl h))
        · exact .inr (.inr (.inr (.inl h)))
        · exact .inr (.inr (.inr (.inr (.inl h))))
      · exact .inr (.inr (.inr (.inr (.inr (.inl h)))))
    · intro p hp
      simp only [List.mem_cons,List.mem_append]
      exact .inr (.inr (.inr (.inr (.inr (.inr hp)))))
    · simp only [List.map_cons,List.map_append,hadr hM3,hadr hM]
  · rintro m₁ news₁ h tk _ ⟨hm,E',rfl,hM'⟩ F' N'
    refine done m₁ E' h tk hm F' ?_ N'
    intro a ha
    have:upTo ns ns.length f pos a=(if home a=j then f (pos a) else pos a):=by
      unfold upTo
      rw [List.take_length]
      by_cases e:home a=j
      · rw [if_pos e,if_pos ((mem a).mpr ⟨ha,e⟩)]
      · rw [if_neg e,if_neg fun h=>e ((mem a).mp h).2]
    show MkOk w A a (home a) (if home a=j then f (pos a) else pos a) (E' a)
    rw [← this]
    exact hM' a ha
end Z2
theorem h_13:∀ j,j<13→∀ u,Pf j u:=histS 12 h_12 (gen 12 h_12 (by with_unfolding_all exact Z2.c_marks_loop))
theorem marks_loop {prog:Program} {w:World} {A0:Around} {E0:Value→Shared→Prop} {s:Shared} {env:Env} {h₀:Heap} {x y:Str} {body:List PySem.Stmt} {Q:Flow→Shared→Prop} {A:Ad} {I:List Int} {home pos:Int→Int} {E:Int→Led} {hdr rest:Led} {D:Addr} {vs:List Value} {ns:List Int} {c:Nat} {kvs:List (Prod Int Value)} {j:Int} {m₀:Str→Option Value} (f:Int→Int) : P_marks_loop prog w A0 E0 s env h₀ x y body home hdr D vs ns kvs j m₀ f Q A I pos E rest c:=by with_unfolding_all exact h_13 12 (Nat.lt_succ_self 12) (sk0 |>.set 0 0 prog |>.set 1 0 w |>.set 2 1 A0 |>.set 3 2 E0 |>.set 4 0 s |>.set 18 0 env |>.set 5 0 h₀ |>.set 19 0 x |>.set 19 1 y |>.set 20 0 body |>.set 21 0 home |>.set 22 0 hdr |>.set 6 11 D |>.set 23 0 vs |>.set 24 0 ns |>.set 17 0 kvs |>.set 15 10 j |>.set 7 1 m₀ |>.set 21 1 f) Q A I pos E rest c
end
end Mine
namespace Mine
theorem notin_lt {D:Addr} {l r:Led} {f:List Addr} (h:AllLt D (l++r)) (e:l.map (·.1)=f) : D ∉ f:=fun hm=>by
  rw [← e] at hm
  refine oe1 (List.mem_map.mp hm) ?_;intro q z0;refine oa2 z0 ?_;(try clear z0);intro hq z20;obtain rfl:=z20
  exact absurd (ktn_ltOf h q (List.mem_append.mpr (.inl hq))) (Nat.lt_irrefl _)
theorem Marks.adr {w:World} {A:Ad} {I:List Int} {home pos:Int→Int} {E:Int→Led} (h:Marks w A I home pos E) : (I.flatMap E).map (·.1)=I.flatMap A.mAd:=flatMap_adr fun i hi=>(h i hi).adr
end Mine
namespace Mine
theorem Off.four {wr:List Addr} {a b c e:Addr} {o1 o2 o3 o4:Obj} {d:Addr} (h:Off wr [(a,o1),(b,o2),(c,o3),(e,o4)]) (k:d∈wr) : @Ne Nat a d∧@Ne Nat b d∧@Ne Nat c d∧@Ne Nat e d :=
  ⟨h.ne k _ (.head _),h.ne k _ (.tail _ (.head _)),h.ne k _ (.tail _ (.tail _ (.head _))),h.ne k _ (.tail _ (.tail _ (.tail _ (.head _))))⟩
end Mine
namespace Mine
section
variable {prog:Program} {w:World} {A:Around} {E:Value→Shared→Prop} {s:Shared} {h₀:Heap} {L:Addr} {m:Str→Option Value} {news:List (Addr × Obj)} {a b:Int} {t u:Tok}
theorem min2 {Q:Value→Shared→Prop} (hh:A.handled=none) (F:Fr h₀ L s.heap m) (N:News h₀ L s.heap news) (h:∀ h' tk t',Fr h₀ L h' m→News h₀ L h' news→Q (.int (min a b) t') { s with heap:=h',toks:=tk }) :
    wpAny (model prog w) A (call (.builtin "min") [.int a t,.int b u]) Q E s :=
  min_two_N hh F N fun h' tk F' N'=>by
    have e:(if b<a then b else a)=min a b:=by split <;> omega
    rw [e]
    exact h h' tk _ F' N'
theorem max2 {Q:Value→Shared→Prop} (hh:A.handled=none) (F:Fr h₀ L s.heap m) (N:News h₀ L s.heap news) (h:∀ h' tk t',Fr h₀ L h' m→News h₀ L h' news→Q (.int (max a b) t') { s with heap:=h',toks:=tk }) :
    wpAny (model prog w) A (call (.builtin "max") [.int a t,.int b u]) Q E s :=
  max_two_N hh F N fun h' tk F' N'=>by
    have e:(if b > a then b else a)=max a b:=by split <;> omega
    rw [e]
    exact h h' tk _ F' N'
end
section
variable {prog:Program} {w:World} {A0:Around} {E0:Value→Shared→Prop} {s:Shared} {env:Env} {h₀:Heap} {x:Str} {body:List Stmt} {Q:Flow→Shared→Prop}
theorem iter_nil {D:Addr} {nn:Nat} {m₀:Str→Option Value} {news:Led} (hh:A0.handled=none) (F:Fr h₀ env.locals s.heap m₀) (N:News h₀ env.locals s.heap news) (hm:(D,listOf #[] nn)∈news)
    (done:∀ h tk,Fr h₀ env.locals h m₀→News h₀ env.locals h news→Q .next { s with heap:=h,toks:=tk }) :
    wpAny (model prog w) A0 (pyIter (.ref D)) (fun it s₂=>LoopAtV prog w A0 h₀ env x body Q E0 it s₂) E0 s :=
  iter_invNL (l:=D) (vs:=[]) (ns:=[]) (nn:=nn) (fun _ m nx=>m=m₀∧nx=news) hh hm .nil F N ⟨rfl,rfl⟩ (fun i n _ _ _ _ _ _ hn=>by cases hn) fun m₁ news₁ h tk _ ⟨e1,e2⟩ F' N'=>by
    subst e1 e2
    exact done h tk F' N'
end
end Mine
namespace Mine
theorem Cut.eq {M l e r:Led} (c:Cut M l e r) : l=e++(M++r):=by
  induction c with
  | here=>rfl
  | step _ ih=>exact congrArg _ ih
theorem Spec.useC {w:World} {f:Addr} {args:List Value} {dz:Nat} {ledx M:Led} {wr:List Addr} {Post:Value→List (Addr × Obj)→Prop} (S:Spec w f args dz (ledx++M) wr Post)
    {p:Program} {loose:List Str} {mean:ExcName→Option Value} {mg mb:Str→Option Value} {dp un:Nat} {gd:Option (List Code)} {cn:Str} {cs:Scope} {a:Addr} {ccd:Value} {cl:List (Str × Addr)} {outer:List Env} {A₀:Around} {base h₀:Heap} {L:Addr} {m:Str→Option Value} {news ex restx r0:Led} {s:Shared} {Q E:Value→Shared→Prop}
    (B:Below A₀ base outer h₀) (F:Fr h₀ L s.heap m) (X:(Mine.hd.heap_1 w.params).In h₀) (N:News h₀ L s.heap news) (C:Cut M news ex r0) (P:Pick ex ledx restx) (hr:Off wr (restx++r0)) (T:Top p loose mean mg mb h₀) (hk:cs.kind=.function) (hd:dp+dz<recursionLimit) (hu:un+8 * dz<cLine)
    (ret:∀ v led' h' tk',Post v led'→Fr h₀ L h' m→News h₀ L h' (led'++(restx++r0))→Q v { s with heap:=h',toks:=tk' }) :
    wpAny (model PySem.Challenge.rw_ok0063_01.prog w) (ktrTop dp un gd cn cs L a ccd cl outer) (call (.ref f) args) Q E s:=by
  refine S p loose mean mg mb dp un gd cn cs a ccd cl outer A₀ base h₀ L m (restx++r0) s Q E B F X (fun q hq=>N q ?_) hr T hk hd hu ret
  rw [C.eq]
  simp only [List.mem_append] at hq ⊢
  rcases hq with (hq | hq) | hq | hq
  · exact .inl (P.mem q (List.mem_append.mpr (.inl hq)))
  · exact .inr (.inl hq)
  · exact .inl (P.mem q (List.mem_append.mpr (.inr hq)))
  · exact .inr (.inr hq)
theorem reorder {h₀ h:Heap} {L:Addr} {a b c d:Led} (N:News h₀ L h ((a++b)++(c++d))) : News h₀ L h (a++(c++(b++d))):=by
  refine News.sub N fun p hp=>?_
  simp only [List.mem_append] at hp ⊢
  rcases hp with h | h | h | h
  · exact .inl (.inl h)
  · exact .inr (.inl h)
  · exact .inl (.inr h)
  · exact .inr (.inr h)
end Mine
namespace Mine
section
variable (w:World) {A:Ad} {I:List Int} {home pos:Int→Int} {EM:Int→Led} {k kd r:Addr} {o:Obj} {kvs:List (Int × Value)} {t1 u1 u2:Tok} {st en j:Int}
theorem kw33_1:True:=by
  k_with "call ref" => ((fail_if_success have:=@e33_1);k_here;(with_reducible show wpAny _ _ (call (Value.ref 277) _) _ _ _);k_dflt (refine' SpecF.use (mk_numbers _ ?y0 ?y1 ?y2) ?B ?F ?X ?N ?P ?hr ?T ?hk ?hd ?hu ?_;k_extra "us1";(case y0=>assumption);(case y1=>assumption);(case y2=>assumption);(case hr=>k_extra "h2");k_whole);intro v9 led9 fr9 h' tk' hP9;refine oe4 hP9 ?_;(try clear hP9);intro D9 vs9 ns9 c9 z0;refine oa6 z0 ?_;(try clear z0);intro hv9 hl9 hfr9 i9 p9 o9;subst hv9;subst hl9;subst hfr9;intro hf9 F' N';(have l9:=hf9 D9 (.head _));(try k_lt l9);k_extra "nn")
  k_with "pyIter ref" => ((fail_if_success have:=@e33_1);refine Stop.intro ?_)
  trivial
end
section
namespace Z1
theorem c_mk_inserted:∀ k st en,P_mk_inserted SpecC w A I home pos (k26 0) kd r o kvs t1 u1 (k14 12) j k st en:=by
  intro k st en ndm hM hro lo hz hk h3
  intro B F X N hr T hck hd hu ret
  simp only [List.cons_append,List.nil_append] at N
  revert X;k_fill;intro X
  refine wpAny_call ?_
  k_dflt (refine' enterZ [ofString "self",ofString "start",ofString "end",ofString "is_before"] (l':=[(ofString "is_before",_),(ofString "end",_),(ofString "start",_),(ofString "self",_)]) ?k1 ?k2 ?k3 ?k4 ?k5 ?kA ?kF ?kK ?k6 ?k7 ?k8 ?k9 ?kB ?kL ?_ ?c2 ?c3 ?c4 ?c5;k_extra "ez")
  k_steps
  rename _∧_∧_∧AllLt _ _=>l9
  have oD:=notin_lt l9.2.2.2 hM.adr
  refine Stop.out (marks_loop (A:=A) (home:=home) (pos:=pos) (E:=(k26 0)) (kvs:=kvs) (j:=j) (hdr:=[(k,instObj 322 kd),(kd,rowsD w t1 r),(r,o)]) (rest:=rest) (y:=ofString "marker") (fun p=>if st<p then p+en-st else p) rfl ‹_› ‹_› (rows_nd hro) hk ndm hM ‹_› ‹_› (Off.cons oD h3) hr ?_ ?_)
  · intro i p0 t t1 t2 t3 t4 t5 t6 u h1 tk RO hi1 hi2 hval q1 q2 n1 F1 N1
    simp only [List.cons_append,List.nil_append] at N1
    k_fold
    have r1:=q2.ne (d:=A.md i) (by simp [Ad.mAd])
    have r2:=q1.four (d:=A.md i) (by simp [Ad.mAd])
    refine oa4 r2 ?_;(try clear r2);intro e1 e2 e3 e4
    k_steps
    all_goals (
      rename News _ _ _ _=>N9
      refine' ⟨rfl,_,_,_,_,rfl,?F,?m,?N⟩
      (case F=>assumption)
      (case m=>(intro z h1 h2;simp only [h1,h2,if_false]))
      (case N=>((first | rw [if_pos (by omega)] | rw [if_neg (by omega)]);exact N9)))
  · intro m' E' h1 tk hm F1 M1 N1
    simp only [List.cons_append,List.nil_append] at N1
    k_steps
    rename News h₀ L _ _=>N9
    exact ret _ _ _ _ ⟨rfl,E',rfl,M1⟩ ‹_› (News.sub N9 fun q hq=>.tail _ hq)
end Z1
theorem h_14:∀ j,j<14→∀ u,Pf j u:=histS 13 h_13 (gen 13 h_13 (by with_unfolding_all exact Z1.c_mk_inserted))
theorem mk_inserted (w:World) {A:Ad} {I:List Int} {home pos:Int→Int} {EM:Int→Led} {k kd r:Addr} {o:Obj} {kvs:List (Prod Int Value)} {t1 u1 u2:Tok} {st en j:Int} : P_mk_inserted Spec w A I home pos EM kd r o kvs t1 u1 u2 j k st en:=fun ndm hM hro lo hz hk h3 p loose mean mg mb dp un gd cn cs a ccd cl outer A₀ base h₀ L m rest s Q E=>by with_unfolding_all exact h_14 13 (Nat.lt_succ_self 13) (sk0 |>.set 1 0 w |>.set 25 0 A |>.set 24 1 I |>.set 21 0 home |>.set 21 2 pos |>.set 26 0 EM |>.set 6 8 kd |>.set 6 9 r |>.set 16 0 o |>.set 17 0 kvs |>.set 14 2 t1 |>.set 14 11 u1 |>.set 14 12 u2 |>.set 15 10 j |>.ctx p loose mean mg mb dp un gd cn cs a ccd cl outer A₀ base h₀ L m rest s Q E) k st en ndm hM hro lo hz hk h3
end
section
namespace Z1
theorem c_mk_deleted:∀ k st en,P_mk_deleted SpecC w A I home pos (k26 0) kd r o kvs t1 u1 (k14 12) j k st en:=by
  intro k st en ndm hM hro lo hz hk h3
  intro B F X N hr T hck hd hu ret
  simp only [List.cons_append,List.nil_append] at N
  revert X;k_fill;intro X
  refine wpAny_call ?_
  k_dflt (refine' enterZ [ofString "self",ofString "start",ofString "end"] (l':=[(ofString "end",_),(ofString "start",_),(ofString "self",_)]) ?k1 ?k2 ?k3 ?k4 ?k5 ?kA ?kF ?kK ?k6 ?k7 ?k8 ?k9 ?kB ?kL ?_ ?c2 ?c3 ?c4 ?c5;k_extra "ez")
  k_steps
  rename _∧_∧_∧AllLt _ _=>l9
  have oD:=notin_lt l9.2.2.2 hM.adr
  refine Stop.out (marks_loop (A:=A) (home:=home) (pos:=pos) (E:=(k26 0)) (kvs:=kvs) (j:=j) (hdr:=[(k,instObj 322 kd),(kd,rowsD w t1 r),(r,o)]) (rest:=rest) (y:=ofString "marker") (fun p=>if en<p then p-(en-st) else if st<p then st else p) rfl ‹_› ‹_› (rows_nd hro) hk ndm hM ‹_› ‹_› (Off.cons oD h3) hr ?_ ?_)
  · intro i p0 t t1 t2 t3 t4 t5 t6 u h1 tk RO hi1 hi2 hval q1 q2 n1 F1 N1
    simp only [List.cons_append,List.nil_append] at N1
    k_fold
    have r1:=q2.ne (d:=A.md i) (by simp [Ad.mAd])
    have r2:=q1.four (d:=A.md i) (by simp [Ad.mAd])
    refine oa4 r2 ?_;(try clear r2);intro e1 e2 e3 e4
    k_steps
    all_goals (
      rename News _ _ _ _=>N9
      refine' ⟨rfl,_,_,_,_,rfl,?F,?m,?N⟩
      (case F=>assumption)
      (case m=>(intro z h1 h2;simp only [h1,h2,if_false]))
      (case N=>((first | rw [if_pos (by omega)] | rw [if_neg (by omega),if_pos (by omega)] | rw [if_neg (by omega),if_neg (by omega)]);exact N9)))
  · intro m' E' h1 tk hm F1 M1 N1
    simp only [List.cons_append,List.nil_append] at N1
    k_steps
    rename News h₀ L _ _=>N9
    exact ret _ _ _ _ ⟨rfl,E',rfl,M1⟩ ‹_› (News.sub N9 fun q hq=>.tail _ hq)
end Z1
theorem h_15:∀ j,j<15→∀ u,Pf j u:=histS 14 h_14 (gen 14 h_14 (by with_unfolding_all exact Z1.c_mk_deleted))
theorem mk_deleted (w:World) {A:Ad} {I:List Int} {home pos:Int→Int} {EM:Int→Led} {k kd r:Addr} {o:Obj} {kvs:List (Prod Int Value)} {t1 u1 u2:Tok} {st en j:Int} : P_mk_deleted Spec w A I home pos EM kd r o kvs t1 u1 u2 j k st en:=fun ndm hM hro lo hz hk h3 p loose mean mg mb dp un gd cn cs a ccd cl outer A₀ base h₀ L m rest s Q E=>by with_unfolding_all exact h_15 14 (Nat.lt_succ_self 14) (sk0 |>.set 1 0 w |>.set 25 0 A |>.set 24 1 I |>.set 21 0 home |>.set 21 2 pos |>.set 26 0 EM |>.set 6 8 kd |>.set 6 9 r |>.set 16 0 o |>.set 17 0 kvs |>.set 14 2 t1 |>.set 14 11 u1 |>.set 14 12 u2 |>.set 15 10 j |>.ctx p loose mean mg mb dp un gd cn cs a ccd cl outer A₀ base h₀ L m rest s Q E) k st en ndm hM hro lo hz hk h3
theorem e33_1:True:=trivial
end
end Mine
namespace Mine
namespace Z1
theorem c_BfOk_adr:∀ l,P_BfOk_adr w A I home j size point mark (k12 3) l:=by
  intro l h
  obtain ⟨_,_,_,_,_,_,_,_,_,_,_,_,_,_,_,_,_,_,_,_,_,_,_,_,rfl,_⟩:=h
  rfl
end Z1
theorem h_16:∀ j,j<16→∀ u,Pf j u:=histS 15 h_15 (gen 15 h_15 (by with_unfolding_all exact Z1.c_BfOk_adr))
theorem BfOk.adr {w:World} {A:Ad} {I:List Int} {home:Int→Int} {j size point:Int} {mark:Value} {lim:Nat} {l:Led} : P_BfOk_adr w A I home j size point mark lim l:=by with_unfolding_all exact h_16 15 (Nat.lt_succ_self 15) (sk0 |>.set 1 0 w |>.set 25 0 A |>.set 24 1 I |>.set 21 0 home |>.set 15 10 j |>.set 15 11 size |>.set 15 12 point |>.set 10 4 mark |>.set 12 3 lim) l
end Mine
namespace Mine
end Mine
namespace Mine
section
variable (w:World) {A:Ad} {I:List Int} {home pos:Int→Int} {EM:Int→Led} {T:Nat→Tok} {vn vm ct st mark:Value} {tp tb tz u1 g1 g2 g3 g4 g5 g6 g7 tr t8 t9:Tok} {ticks gs ge j size point place:Int} {its:Array Value} {n lim:Nat} {o:Obj} {kvs:List (Int × Value)}
theorem kw41_1:True:=by
  k_with "call ref" => ((fail_if_success have:=@e41_1);k_here;(with_reducible show wpAny _ _ (call (Value.ref 111) _) _ _ _);k_dflt (refine' Spec.use (gt_size _ ?y0) ?B ?F ?X ?N ?P ?hr ?T ?hk ?hd ?hu ?_;k_extra "us1";(case y0=>omega);(case hr=>k_extra "h2");k_whole);intro v9 led9 h' tk' hP9;refine oa2 hP9 ?_;(try clear hP9);intro z21 hl9;refine oe1 z21 ?_;(try clear z21);intro t9 hv9;subst hv9;subst hl9;intro F' N';k_extra "nn")
  trivial
end
section
namespace Z1
theorem c_bf_size:P_bf_size SpecC w A I home T (k10 5) (k10 6) (k10 7) (k10 8) mark (k14 13) (k14 14) (k14 15) u1 (k14 16) (k14 17) (k14 18) (k14 19) (k14 20) (k14 21) (k14 22) (k14 23) (k15 13) gs ge j size point its n (k12 3) o kvs:=by
  intro h hl
  intro B F X N hr Tp hk hd hu ret
  simp only [List.cons_append,List.nil_append] at N
  obtain ⟨q0,q1,q2,q3,q4,q5,q6,q7⟩:=h
  revert X;k_fill;intro X
  refine wpAny_call ?_
  k_dflt (refine' enterZ [ofString "self"] (l':=[(ofString "self",_)]) ?k1 ?k2 ?k3 ?k4 ?k5 ?kA ?kF ?kK ?k6 ?k7 ?k8 ?k9 ?kB ?kL ?_ ?c2 ?c3 ?c4 ?c5;k_extra "ez")
  k_steps
  rw [q3]
  all_goals (
    rename News h₀ L _ _=>N9
    skip
    refine' ret _ _ _ _ ⟨⟨_,rfl⟩,rfl⟩ ?F (led_end ?P ?S N9)
    k_extra "pk"
    (case S=>k_extra "sb")
    (case F=>assumption))
end Z1
theorem h_17:∀ j,j<17→∀ u,Pf j u:=histS 16 h_16 (gen 16 h_16 (by with_unfolding_all exact Z1.c_bf_size))
theorem bf_size (w:World) {A:Ad} {I:List Int} {home:Int→Int} {T:Nat→Tok} {vn vm ct st mark:Value} {tp tb tz u1 g1 g2 g3 g4 g5 g6 g7 tr:Tok} {ticks gs ge j size point:Int} {its:Array Value} {n lim:Nat} {o:Obj} {kvs:List (Prod Int Value)} : P_bf_size Spec w A I home T vn vm ct st mark tp tb tz u1 g1 g2 g3 g4 g5 g6 g7 tr ticks gs ge j size point its n lim o kvs:=fun h hl p loose mean mg mb dp un gd cn cs a ccd cl outer A₀ base h₀ L m rest s Q E=>by with_unfolding_all exact h_17 16 (Nat.lt_succ_self 16) (sk0 |>.set 1 0 w |>.set 25 0 A |>.set 24 1 I |>.set 21 0 home |>.set 27 0 T |>.set 10 5 vn |>.set 10 6 vm |>.set 10 7 ct |>.set 10 8 st |>.set 10 4 mark |>.set 14 13 tp |>.set 14 14 tb |>.set 14 15 tz |>.set 14 11 u1 |>.set 14 16 g1 |>.set 14 17 g2 |>.set 14 18 g3 |>.set 14 19 g4 |>.set 14 20 g5 |>.set 14 21 g6 |>.set 14 22 g7 |>.set 14 23 tr |>.set 15 13 ticks |>.set 15 1 gs |>.set 15 2 ge |>.set 15 10 j |>.set 15 11 size |>.set 15 12 point |>.set 9 0 its |>.set 12 0 n |>.set 12 3 lim |>.set 16 0 o |>.set 17 0 kvs |>.ctx p loose mean mg mb dp un gd cn cs a ccd cl outer A₀ base h₀ L m rest s Q E) h hl
end
section
namespace Z1
theorem c_bf_goto:P_bf_goto SpecC w A T (k10 5) (k10 6) (k10 7) (k10 8) mark (k14 13) (k14 14) (k14 15) u1 (k14 16) (k14 17) (k14 18) (k14 19) (k14 20) (k14 21) (k14 22) (k14 23) t9 (k15 13) gs ge j size point place its n o:=by
  intro ok hj
  intro B F X N hr Tp hk hd hu ret
  simp only [List.cons_append,List.nil_append] at N
  refine and8 (ok.blk j hj) ?_;intro c1 c2 c3 c4 c5 c6 c7 c8
  have r0:=hr.ne (d:=A.bd j) (by k_extra "mem")
  revert X;k_fill;intro X
  refine wpAny_call ?_
  k_dflt (refine' enterZ [ofString "self",ofString "place"] (l':=[(ofString "place",_),(ofString "self",_)]) ?k1 ?k2 ?k3 ?k4 ?k5 ?kA ?kF ?kK ?k6 ?k7 ?k8 ?k9 ?kB ?kL ?_ ?c2 ?c3 ?c4 ?c5;k_extra "ez")
  k_steps
  all_goals (
    rename News h₀ L _ _=>N9
    skip
    refine' ret _ _ _ _ ⟨_,⟨_,rfl⟩,rfl⟩ ?F (led_end ?P ?S N9)
    k_extra "pk"
    (case S=>k_extra "sb")
    (case F=>assumption))
end Z1
theorem h_18:∀ j,j<18→∀ u,Pf j u:=histS 17 h_17 (gen 17 h_17 (by with_unfolding_all exact Z1.c_bf_goto))
theorem bf_goto (w:World) {A:Ad} {T:Nat→Tok} {vn vm ct st mark:Value} {tp tb tz u1 g1 g2 g3 g4 g5 g6 g7 tr t9:Tok} {ticks gs ge j size point place:Int} {its:Array Value} {n:Nat} {o:Obj} : P_bf_goto Spec w A T vn vm ct st mark tp tb tz u1 g1 g2 g3 g4 g5 g6 g7 tr t9 ticks gs ge j size point place its n o:=fun ok hj p loose mean mg mb dp un gd cn cs a ccd cl outer A₀ base h₀ L m rest s Q E=>by with_unfolding_all exact h_18 17 (Nat.lt_succ_self 17) (sk0 |>.set 1 0 w |>.set 25 0 A |>.set 27 0 T |>.set 10 5 vn |>.set 10 6 vm |>.set 10 7 ct |>.set 10 8 st |>.set 10 4 mark |>.set 14 13 tp |>.set 14 14 tb |>.set 14 15 tz |>.set 14 11 u1 |>.set 14 16 g1 |>.set 14 17 g2 |>.set 14 18 g3 |>.set 14 19 g4 |>.set 14 20 g5 |>.set 14 21 g6 |>.set 14 22 g7 |>.set 14 23 tr |>.set 14 10 t9 |>.set 15 13 ticks |>.set 15 1 gs |>.set 15 2 ge |>.set 15 10 j |>.set 15 11 size |>.set 15 12 point |>.set 15 14 place |>.set 9 0 its |>.set 12 0 n |>.set 16 0 o |>.ctx p loose mean mg mb dp un gd cn cs a ccd cl outer A₀ base h₀ L m rest s Q E) ok hj
theorem e41_1:True:=trivial
end
end Mine
namespace Mine
section
variable (w:World) {A:Ad} {I:List Int} {home pos:Int→Int} {EM:Int→Led} {T:Nat→Tok} {vn vm ct st mark:Value} {tp tb tz u1 g1 g2 g3 g4 g5 g6 g7 tr t8 t9:Tok} {ticks gs ge j size point place:Int} {its:Array Value} {n lim:Nat} {o:Obj} {kvs:List (Int × Value)}
variable {I:List Int} {st_ en_:Int} {v1 v2 v3:Value}
theorem kw42_1:True:=by
  k_with "pyIter ref" => ((fail_if_success have:=@e42_1);k_here;k_dflt (refine' iter_nil ?hh ?F ?N ?l ?_;(case hh=>exact rfl);(case F=>k_asm);(case N=>k_asm);(case l=>k_mem));intro h' tk' F' N';(try dsimp only);(try k_sweep))
  k_with "call ref" => ((fail_if_success have:=@e42_1);k_here;(with_reducible show wpAny _ _ (call (Value.ref 425) _) _ _ _);k_dflt (refine wpAny_call ?_;(refine' enterZ [ofString "self",ofString "are_codes"] (l':=[(ofString "are_codes",_),(ofString "self",_)]) ?k1 ?k2 ?k3 ?k4 ?k5 ?kA ?kF ?kK ?k6 ?k7 ?k8 ?k9 ?kB ?kL ?_ ?c2 ?c3 ?c4 ?c5;k_extra "ez")))
  trivial
theorem ed_ahead:Spec w 451 [.ref (A.b j),v1,v2] 1 [(A.b j,instObj 428 (A.bd j)),(A.bd j,bufD w T vn vm (A.t j) (A.k j) (.int point tp) (.int 1 tb) (.int size tz) mark (.int ticks u1) ct st (A.ls j)),(A.ls j,listOf #[] 0)] [] (fun v led=>v=.none∧led=[(A.b j,instObj 428 (A.bd j)),(A.bd j,bufD w T vn vm (A.t j) (A.k j) (.int point tp) (.int 1 tb) (.int size tz) mark (.int ticks u1) ct st (A.ls j)),(A.ls j,listOf #[] 0)]):=by
  intro p loose mean mg mb dp un gd cn cs a ccd cl outer A₀ base h₀ L m rest s Q E B F X N hr Tp hk hd hu ret
  simp only [List.cons_append,List.nil_append] at N
  revert X;k_fill;intro X
  refine wpAny_call ?_
  k_dflt (refine' enterZ [ofString "buffer",ofString "start",ofString "end"] (l':=[(ofString "end",_),(ofString "start",_),(ofString "buffer",_)]) ?k1 ?k2 ?k3 ?k4 ?k5 ?kA ?kF ?kK ?k6 ?k7 ?k8 ?k9 ?kB ?kL ?_ ?c2 ?c3 ?c4 ?c5;k_extra "ez")
  k_steps
  all_goals (
    rename News h₀ L _ _=>N9
    skip
    refine' ret _ _ _ _ ⟨rfl,rfl⟩ ?F (led_end ?P ?S N9)
    k_extra "pk"
    (case S=>k_extra "sb")
    (case F=>assumption))
end
section
namespace Z1
theorem c_ed_behind:P_ed_behind SpecC w A T (k10 5) (k10 6) (k10 7) (k10 8) mark (k14 13) (k14 14) (k14 15) u1 (k15 13) j size point (k10 9) (k10 10) v3:=by
  intro ok hj
  intro B F X N hr Tp hk hd hu ret
  simp only [List.cons_append,List.nil_append] at N
  refine and8 (ok.blk j hj) ?_;intro c1 c2 c3 c4 c5 c6 c7 c8
  have r0:=hr.ne (d:=A.bd j) (by k_extra "mem")
  revert X;k_fill;intro X
  refine wpAny_call ?_
  k_dflt (refine' enterZ [ofString "buffer",ofString "start",ofString "end",ofString "old_length"] (l':=[(ofString "old_length",_),(ofString "end",_),(ofString "start",_),(ofString "buffer",_)]) ?k1 ?k2 ?k3 ?k4 ?k5 ?kA ?kF ?kK ?k6 ?k7 ?k8 ?k9 ?kB ?kL ?_ ?c2 ?c3 ?c4 ?c5;k_extra "ez")
  k_steps
  all_goals (
    rename News h₀ L _ _=>N9
    skip
    refine' ret _ _ _ _ ⟨rfl,_,_,_,rfl⟩ ?F (led_end ?P ?S N9)
    k_extra "pk"
    (case S=>k_extra "sb")
    (case F=>assumption))
end Z1
theorem h_19:∀ j,j<19→∀ u,Pf j u:=histS 18 h_18 (gen 18 h_18 (by with_unfolding_all exact Z1.c_ed_behind))
theorem ed_behind (w:World) {A:Ad} {T:Nat→Tok} {vn vm ct st mark:Value} {tp tb tz u1:Tok} {ticks j size point:Int} {v1 v2 v3:Value} : P_ed_behind Spec w A T vn vm ct st mark tp tb tz u1 ticks j size point v1 v2 v3:=fun ok hj p loose mean mg mb dp un gd cn cs a ccd cl outer A₀ base h₀ L m rest s Q E=>by with_unfolding_all exact h_19 18 (Nat.lt_succ_self 18) (sk0 |>.set 1 0 w |>.set 25 0 A |>.set 27 0 T |>.set 10 5 vn |>.set 10 6 vm |>.set 10 7 ct |>.set 10 8 st |>.set 10 4 mark |>.set 14 13 tp |>.set 14 14 tb |>.set 14 15 tz |>.set 14 11 u1 |>.set 15 13 ticks |>.set 15 10 j |>.set 15 11 size |>.set 15 12 point |>.set 10 9 v1 |>.set 10 10 v2 |>.set 10 11 v3 |>.ctx p loose mean mg mb dp un gd cn cs a ccd cl outer A₀ base h₀ L m rest s Q E) ok hj
end
section
namespace Z1
theorem c_ed_reached:P_ed_reached SpecFC w A T (k10 5) (k10 6) (k10 7) (k10 8) mark (k14 13) (k14 14) (k14 15) u1 (k14 9) t9 (k15 13) j size point (k15 15) en_:=by
  intro h1 h2 h3 h4
  intro B F X N hr Tp hk hd hu ret
  simp only [List.cons_append,List.nil_append] at N
  revert X;k_fill;intro X
  refine wpAny_call ?_
  k_dflt (refine' enterZ [ofString "buffer",ofString "start",ofString "end"] (l':=[(ofString "end",_),(ofString "start",_),(ofString "buffer",_)]) ?k1 ?k2 ?k3 ?k4 ?k5 ?kA ?kF ?kK ?k6 ?k7 ?k8 ?k9 ?kB ?kL ?_ ?c2 ?c3 ?c4 ?c5;k_extra "ez")
  k_steps
  rename News h₀ L _ _=>N9
  rename _∧_∧_∧AllLt _ _=>l9
  refine' ret _ _ _ _ _ ⟨_,_,_,rfl,rfl,rfl⟩ ?H ?F (led_end ?P ?S N9)
  k_extra "pk"
  (case S=>(intro q h;simp only [List.mem_cons,h,or_true]))
  (case F=>assumption)
  (case H=>(intro d hd q hq;rw [List.mem_singleton.mp hd];exact @ktn_ltOf _ ([(A.b j,instObj 428 (A.bd j)),(A.bd j,bufD w T (k10 5) (k10 6) (A.t j) (A.k j) (.int point (k14 13)) (.int 1 (k14 14)) (.int size (k14 15)) mark (.int (k15 13) u1) (k10 7) (k10 8) (A.ls j))]++rest) l9.2 q hq))
end Z1
theorem h_20:∀ j,j<20→∀ u,Pf j u:=histS 19 h_19 (gen 19 h_19 (by with_unfolding_all exact Z1.c_ed_reached))
theorem ed_reached (w:World) {A:Ad} {T:Nat→Tok} {vn vm ct st mark:Value} {tp tb tz u1 t8 t9:Tok} {ticks j size point st_ en_:Int} : P_ed_reached SpecF w A T vn vm ct st mark tp tb tz u1 t8 t9 ticks j size point st_ en_:=fun h1 h2 h3 h4 p loose mean mg mb dp un gd cn cs a ccd cl outer A₀ base h₀ L m rest s Q E=>by with_unfolding_all exact h_20 19 (Nat.lt_succ_self 19) (sk0 |>.set 1 0 w |>.set 25 0 A |>.set 27 0 T |>.set 10 5 vn |>.set 10 6 vm |>.set 10 7 ct |>.set 10 8 st |>.set 10 4 mark |>.set 14 13 tp |>.set 14 14 tb |>.set 14 15 tz |>.set 14 11 u1 |>.set 14 9 t8 |>.set 14 10 t9 |>.set 15 13 ticks |>.set 15 10 j |>.set 15 11 size |>.set 15 12 point |>.set 15 15 st_ |>.set 15 16 en_ |>.ctx p loose mean mg mb dp un gd cn cs a ccd cl outer A₀ base h₀ L m rest s Q E) h1 h2 h3 h4
theorem e42_1:True:=trivial
end
end Mine
namespace Mine
theorem Away.ni {l wr:List Addr} {a:Addr} (h:Away l wr) (k:a∈l) : a ∉ wr:=h a k
theorem notin_of {w:World} {A:Ad} {I:List Int} {home pos:Int→Int} {E:Int→Led} {D:Addr} {r:Led} (hM:Marks w A I home pos E) (l:∀ q∈r,q.1<D) (k:∀ q∈I.flatMap E,q∈r) : D ∉ I.flatMap A.mAd:=fun hm=>by
  rw [← hM.adr] at hm
  refine oe1 (List.mem_map.mp hm) ?_;intro q z0;refine oa2 z0 ?_;(try clear z0);intro hq z22;obtain rfl:=z22
  exact absurd (l q (k q hq)) (Nat.lt_irrefl _)
theorem off_of {w:World} {A:Ad} {I:List Int} {home pos:Int→Int} {E:Int→Led} {wr:List Addr} (hM:Marks w A I home pos E) (h:∀ a∈wr,a ∉ I.flatMap A.mAd) : Off wr (I.flatMap E):=fun q hq hm=>h _ hm (by rw [← hM.adr];exact List.mem_map.mpr ⟨q,hq,rfl⟩)
theorem off_of2 {w:World} {A:Ad} {I:List Int} {home pos:Int→Int} {E:Int→Led} {wr all:List Addr} (hM:Marks w A I home pos E) (h:Away all (I.flatMap A.mAd)) (k:∀ a∈wr,a∈all) : Off wr (I.flatMap E):=off_of hM fun a ha=>h a (k a ha)
theorem BfOk.of {w:World} {A:Ad} {I:List Int} {home:Int→Int} {j size' point point' zv:Int} {mark:Value} {lim':Nat} {T:Nat→Tok} {vn vm ct st:Value} {tp tb tz u1 g1 g2 g3 g4 g5 g6 g7 tr:Tok} {ticks gs ge:Int} {its:Array Value} {n:Nat} {o:Obj} {kvs:List (Int × Value)}
    (ep:point'=point) (ez:size'+1=zv) (h:BfIn w A I home j size' lim' its gs ge o kvs) : BfOk w A I home j size' point' mark lim'
     [(A.b j,instObj 428 (A.bd j)),(A.bd j,bufD w T vn vm (A.t j) (A.k j) (.int point tp) (.int 1 tb) (.int zv tz) mark (.int ticks u1) ct st (A.ls j)),(A.t j,instObj 177 (A.td j)),
      (A.td j,gapD w g1 g2 g3 g4 (.int 8 g5) (A.c j) (.int gs g6) (.int ge g7)),(A.c j,listOf its n),(A.k j,instObj 322 (A.kd j)),(A.kd j,rowsD w tr (A.r j)),(A.r j,o),(A.ls j,listOf #[] 0)]:=by
  subst ep ez
  exact ⟨_,_,_,_,_,_,_,_,_,_,_,_,_,_,_,_,_,_,_,_,_,_,_,_,rfl,h⟩
theorem Marks.congr {w:World} {A:Ad} {I:List Int} {home pos pos':Int→Int} {E:Int→Led} (h:Marks w A I home pos E) (e:∀ i,pos' i=pos i) : Marks w A I home pos' E:=by
  rw [show pos'=pos from funext e];exact h
theorem sub_cons {q:Addr × Obj} {l news r:Led} (t:Take q news r) (k:∀ p∈l,p∈r) : ∀ p∈q::l,p∈news:=fun p hp=>t.mem p ((List.mem_cons.mp hp).elim (fun e=>e ▸ .head _) fun h=>.tail _ (k p h))
theorem sub_tail {x:Addr × Obj} {l r:Led} (k:∀ p∈l,p∈r) : ∀ p∈l,p∈x::r:=fun p hp=>.tail _ (k p hp)
theorem sub_refl {l:Led} : ∀ p∈l,p∈l:=fun _ h=>h
section
variable (w:World) {A:Ad} {I:List Int} {home pos:Int→Int} {EM:Int→Led} {T:Nat→Tok} {vn vm ct st mark:Value} {tp tb tz u1 g1 g2 g3 g4 g5 g6 g7 tr t8 t9:Tok} {ticks gs ge j size point place:Int} {its:Array Value} {n lim:Nat} {o:Obj} {kvs:List (Int × Value)}
variable {I:List Int} {lc:Addr} {cs_:Array Value} {nc:Nat}
theorem kw43_1:True:=by
  k_with "call ref" => ((fail_if_success have:=@e43_1);k_here;(with_reducible show wpAny _ _ (call (Value.ref 493) _) _ _ _);k_dflt (refine wpAny_call ?_;(refine' enterZ [ofString "buffer",ofString "place",ofString "codes",ofString "before_markers",ofString "is_point_behind"] (l':=[(ofString "is_point_behind",_),(ofString "before_markers",_),(ofString "codes",_),(ofString "place",_),(ofString "buffer",_)]) ?k1 ?k2 ?k3 ?k4 ?k5 ?kA ?kF ?kK ?k6 ?k7 ?k8 ?k9 ?kB ?kL ?_ ?c2 ?c3 ?c4 ?c5;k_extra "ez")))
  k_with "call ref" => ((fail_if_success have:=@e43_1);k_here;(with_reducible show wpAny _ _ (call (Value.ref 437) _) _ _ _);k_dflt (refine wpAny_call ?_;(refine' enterZ [ofString "buffer"] (l':=[(ofString "buffer",_)]) ?k1 ?k2 ?k3 ?k4 ?k5 ?kA ?kF ?kK ?k6 ?k7 ?k8 ?k9 ?kB ?kL ?_ ?c2 ?c3 ?c4 ?c5;k_extra "ez")))
  k_with "call ref" => ((fail_if_success have:=@e43_1);k_here;(with_reducible show wpAny _ _ (call (Value.ref 472) _) _ _ _);k_dflt (refine wpAny_call ?_;(refine' enterZ [ofString "buffer",ofString "place",ofString "codes"] (l':=[(ofString "codes",_),(ofString "place",_),(ofString "buffer",_)]) ?k1 ?k2 ?k3 ?k4 ?k5 ?kA ?kF ?kK ?k6 ?k7 ?k8 ?k9 ?kB ?kL ?_ ?c2 ?c3 ?c4 ?c5;k_extra "ez")))
  k_with "call ref" => ((fail_if_success have:=@e43_1);k_here;(with_reducible show wpAny _ _ (call (Value.ref 486) _) _ _ _);k_dflt (refine wpAny_call ?_;(refine' enterZ [ofString "buffer",ofString "place",ofString "many",ofString "before_markers"] (l':=[(ofString "before_markers",_),(ofString "many",_),(ofString "place",_),(ofString "buffer",_)]) ?k1 ?k2 ?k3 ?k4 ?k5 ?kA ?kF ?kK ?k6 ?k7 ?k8 ?k9 ?kB ?kL ?_ ?c2 ?c3 ?c4 ?c5;k_extra "ez")))
  k_with "call ref" => ((fail_if_success have:=@e43_1);k_here;(with_reducible show wpAny _ _ (call (Value.ref 451) _) _ _ _);k_dflt (refine' Spec.use (ed_ahead _ ) ?B ?F ?X ?N ?P ?hr ?T ?hk ?hd ?hu ?_;k_extra "us1"; (case hr=>k_extra "h2");k_whole);intro v9 led9 h' tk' hP9;refine oa2 hP9 ?_;(try clear hP9);intro hv9 hl9;subst hv9;subst hl9;intro F' N';k_extra "nn")
  k_with "call ref" => ((fail_if_success have:=@e43_1);k_here;(with_reducible show wpAny _ _ (call (Value.ref 458) _) _ _ _);k_dflt (refine' Spec.use (ed_behind _ ?y0 ?y1) ?B ?F ?X ?N ?P ?hr ?T ?hk ?hd ?hu ?_;k_extra "us1";(case y0=>assumption);(case y1=>assumption);(case hr=>(repeat' first | exact Off.nil | exact off_of2 ‹_› ‹_› (by k_extra "sb") | (refine' Off.append ?_ ?_) | exact Off.none | exact Off.sub ‹_› (by k_extra "sb") | refine' Off.cons ?_ ?_ | exact ni_nil | refine' ni_cons ?_ ?_ | k_ne));k_whole);intro v9 led9 h' tk' hP9;refine oa2 hP9 ?_;(try clear hP9);intro hv9 z0;refine oe3 z0 ?_;(try clear z0);intro ct9 u19 ti9 hl9;subst hv9;subst hl9;intro F' N';k_extra "nn")
  k_with "call ref" => ((fail_if_success have:=@e43_1);k_here;(with_reducible show wpAny _ _ (call (Value.ref 444) _) _ _ _);k_dflt (refine' SpecF.use (ed_reached _ ?y0 ?y1 ?y2 ?y3) ?B ?F ?X ?N ?P ?hr ?T ?hk ?hd ?hu ?_;k_extra "us1";(case y0=>omega);(case y1=>omega);(case y2=>omega);(case y3=>omega);(case hr=>k_extra "h2");k_whole);intro v9 led9 fr9 h' tk' hP9;refine oe3 hP9 ?_;(try clear hP9);intro D9 t9a t9b z0;refine oa3 z0 ?_;(try clear z0);intro hv9 hl9 hfr9;subst hv9;subst hl9;subst hfr9;intro hf9 F' N';(have l9:=hf9 D9 (.head _));(have oD9:=notin_of ‹_› l9 (by k_extra "opq"));(try k_lt l9);k_extra "nn")
  k_with "call ref" => ((fail_if_success have:=@e43_1);k_here;(with_reducible show wpAny _ _ (call (Value.ref 146) _) _ _ _);k_dflt (refine' Spec.use (gt_insert _ ?y0 ?y1 ?y2 ?y3 ?y4 ?y5 ?y6 ?y7 ?y8 ?y9) ?B ?F ?X ?N ?P ?hr ?T ?hk ?hd ?hu ?_;k_extra "us1";(case y0=>omega);(case y1=>omega);(case y2=>omega);(case y3=>omega);(case y4=>omega);(case y5=>omega);(case y6=>omega);(case y7=>omega);(case y8=>omega);(case y9=>omega);(case hr=>k_extra "h2");k_whole);intro v9 led9 h' tk' hP9;refine oa2 hP9 ?_;(try clear hP9);intro hv9 z0;refine oe6 z0 ?_;(try clear z0);intro its9 n9 u91 u92 gs9 ge9 z1;refine oa6 z1 ?_;(try clear z1);intro hl9 e91 e92 e93 e94 e95;subst hv9;subst hl9;intro F' N';k_extra "nn")
  k_with "call ref" => ((fail_if_success have:=@e43_1);k_here;(with_reducible show wpAny _ _ (call (Value.ref 305) _) _ _ _);k_dflt (refine' Spec.useC (ledx:=[_,_,_]) (mk_inserted _ ?y0 ?y1 ?y2 ?y3 ?y4 ?y5 ?y6) ?B ?F ?X ?N ?C ?P ?hr ?T ?hk ?hd ?hu ?_;k_extra "us3";(case y0=>assumption);(case y1=>assumption);(case y2=>assumption);(case y3=>assumption);(case y4=>assumption);(case y5=>assumption);(case y6=>assumption);(case hr=>k_extra "h1");k_whole);intro v9 led9 h' tk' hP9;refine oa2 hP9 ?_;(try clear hP9);intro hv9 z0;refine oe1 z0 ?_;(try clear z0);intro EM9 z1;refine oa2 z1 ?_;(try clear z1);intro hl9 hM9;subst hv9;subst hl9;intro F' N';(replace N':=reorder (a:=[_,_,_]) (b:=List.flatMap _ _) N');k_extra "nn")
  trivial
end
section
namespace Z1
theorem c_ed_insert:P_ed_insert SpecC w A home pos (k26 0) T (k10 5) (k10 6) (k10 7) (k10 8) mark (k14 13) (k14 14) (k14 15) u1 (k14 16) (k14 17) (k14 18) (k14 19) (k14 20) (k14 21) (k14 22) (k14 23) t9 (k15 13) gs ge j size point place its n (k12 3) o kvs I (k6 7) (k9 2) nc:=by
  intro ok hj h hl ndm hM hof hlc hlm hp hp2 hcs
  intro B F X N hr Tp hk hd hu ret
  simp only [List.cons_append,List.nil_append] at N
  obtain ⟨q0,q1,q2,q3,q4,q5,q6,q7⟩:=h
  refine and8 (ok.blk j hj) ?_;intro c1 c2 c3 c4 c5 c6 c7 c8
  have oE:Off [A.bd j,A.td j,A.c j] (I.flatMap (k26 0)):=off_of hM fun a ha=>hof a ((by k_extra "sb" : ∀ a∈[A.bd j,A.td j,A.c j],a∈[A.b j,A.bd j,A.t j,A.td j,A.c j,A.k j,A.kd j,A.r j,A.ls j]) a ha)
  have oM:Off (I.flatMap A.mAd) rest:=hr.sub (by k_extra "sb")
  have oR:Off [A.bd j,A.td j,A.c j] rest:=hr.sub (by k_extra "sb")
  have oA:=oE.append oR
  have r1:=oA.ne (d:=A.bd j) (by k_extra "mem")
  have r2:=oR.ne (d:=A.bd j) (by k_extra "mem")
  have xb:Away [A.b j,A.bd j,A.t j,A.td j,A.c j,A.k j,A.kd j,A.r j,A.ls j] (I.flatMap A.mAd):=hof
  have oH:Off (I.flatMap A.mAd) [(A.k j,instObj 322 (A.kd j)),(A.kd j,rowsD w (k14 23) (A.r j)),(A.r j,o)]:=Off.cons (xb _ (by k_extra "mem")) (Off.cons (xb _ (by k_extra "mem")) (Off.cons (xb _ (by k_extra "mem")) Off.nil))
  have lo:=ok.low j hj
  revert X;k_fill;intro X
  refine wpAny_call ?_
  k_dflt (refine' code_def ?k1 ?k2 ?k3 ?k4 ?k5 ?kA ?kF ?kK ?k6 ?k7 ?k8 ?k9 ?kB ?_ ?c2 ?c3 ?c4 ?c5;(case kA=>exact rfl);(case kF=>exact rfl);(case kK=>assumption);(case k1=>k_asm);(case k2=>k_asm);(case k3=>k_asm);(case k4=>k_asm);(case k5=>k_asm);(case k6=>k_is);(case k7=>k_is);(case k8=>ktr_room);(case k9=>exact binds_K (by k_in) rfl (by k_is) rfl rfl rfl);(case c5=>decide);(case kB=>exact locs rfl);(case c2=>exact rfl);(case c3=>exact rfl);(case c4=>exact rfl);k_whole;intro g' L' h' FG' F' N' B' X' T';(try dsimp only);(try k_fold))
  k_steps
  all_goals (
    rename News _ _ _ _=>N9
    rename Marks _ _ _ _ _ _=>M9
    refine' ret _ _ _ _ ⟨rfl,_,_,rfl,BfOk.of (T:=T) (kvs:=kvs) ?ep ?ez ?bi,?m⟩ ?F (News.sub N9 ?S)
    (case F=>assumption)
    (case m=>first | exact M9 | (refine' Marks.congr M9 fun i=>?_;split <;> (try split) <;> omega))
    (case S=>(simp only [List.cons_append,List.nil_append,List.append_assoc];(repeat' first | exact sub_refl | refine' sub_cons ?_ ?_ | exact Take.head | refine' Take.tail ?_ | refine' sub_tail ?_)))
    (case ep=>(first | rw [if_pos (by omega)] | rw [if_neg (by omega)] | (split <;> omega)))
    (case ez=>omega)
    (case bi=>(refine ⟨?_,?_,?_,?_,?_,?_,?_,?_⟩ <;> first | omega | assumption)))
end Z1
theorem h_21:∀ j,j<21→∀ u,Pf j u:=histS 20 h_20 (gen 20 h_20 (by with_unfolding_all exact Z1.c_ed_insert))
theorem ed_insert (w:World) {A:Ad} {home pos:Int→Int} {EM:Int→Led} {T:Nat→Tok} {vn vm ct st mark:Value} {tp tb tz u1 g1 g2 g3 g4 g5 g6 g7 tr t9:Tok} {ticks gs ge j size point place:Int} {its:Array Value} {n lim:Nat} {o:Obj} {kvs:List (Prod Int Value)} {I:List Int} {lc:Addr} {cs_:Array Value} {nc:Nat} : P_ed_insert Spec w A home pos EM T vn vm ct st mark tp tb tz u1 g1 g2 g3 g4 g5 g6 g7 tr t9 ticks gs ge j size point place its n lim o kvs I lc cs_ nc:=fun ok hj h hl ndm hM hof hlc hlm hp hp2 hcs p loose mean mg mb dp un gd cn cs a ccd cl outer A₀ base h₀ L m rest s Q E=>by with_unfolding_all exact h_21 20 (Nat.lt_succ_self 20) (sk0 |>.set 1 0 w |>.set 25 0 A |>.set 21 0 home |>.set 21 2 pos |>.set 26 0 EM |>.set 27 0 T |>.set 10 5 vn |>.set 10 6 vm |>.set 10 7 ct |>.set 10 8 st |>.set 10 4 mark |>.set 14 13 tp |>.set 14 14 tb |>.set 14 15 tz |>.set 14 11 u1 |>.set 14 16 g1 |>.set 14 17 g2 |>.set 14 18 g3 |>.set 14 19 g4 |>.set 14 20 g5 |>.set 14 21 g6 |>.set 14 22 g7 |>.set 14 23 tr |>.set 14 10 t9 |>.set 15 13 ticks |>.set 15 1 gs |>.set 15 2 ge |>.set 15 10 j |>.set 15 11 size |>.set 15 12 point |>.set 15 14 place |>.set 9 0 its |>.set 12 0 n |>.set 12 3 lim |>.set 16 0 o |>.set 17 0 kvs |>.set 24 1 I |>.set 6 7 lc |>.set 9 2 cs_ |>.set 12 2 nc |>.ctx p loose mean mg mb dp un gd cn cs a ccd cl outer A₀ base h₀ L m rest s Q E) ok hj h hl ndm hM hof hlc hlm hp hp2 hcs
theorem e43_1:True:=trivial
end
end Mine
namespace Mine
section
variable (w:World) {A:Ad} {I:List Int} {home pos:Int→Int} {EM:Int→Led} {T:Nat→Tok} {vn vm ct st mark:Value} {tp tb tz u1 g1 g2 g3 g4 g5 g6 g7 tr t8 t9:Tok} {ticks gs ge j size point place:Int} {its:Array Value} {n lim:Nat} {o:Obj} {kvs:List (Int × Value)}
variable {I:List Int} {s_ e_:Int}
theorem kw44_1:True:=by
  k_with "call ref" => ((fail_if_success have:=@e44_1);k_here;(with_reducible show wpAny _ _ (call (Value.ref 465) _) _ _ _);k_dflt (refine wpAny_call ?_;(refine' enterZ [ofString "buffer",ofString "start",ofString "end"] (l':=[(ofString "end",_),(ofString "start",_),(ofString "buffer",_)]) ?k1 ?k2 ?k3 ?k4 ?k5 ?kA ?kF ?kK ?k6 ?k7 ?k8 ?k9 ?kB ?kL ?_ ?c2 ?c3 ?c4 ?c5;k_extra "ez")))
  k_with "call ref" => ((fail_if_success have:=@e44_1);k_here;(with_reducible show wpAny _ _ (call (Value.ref 437) _) _ _ _);k_dflt (refine wpAny_call ?_;(refine' enterZ [ofString "buffer"] (l':=[(ofString "buffer",_)]) ?k1 ?k2 ?k3 ?k4 ?k5 ?kA ?kF ?kK ?k6 ?k7 ?k8 ?k9 ?kB ?kL ?_ ?c2 ?c3 ?c4 ?c5;k_extra "ez")))
  k_with "call ref" => ((fail_if_success have:=@e44_1);k_here;(with_reducible show wpAny _ _ (call (Value.ref 479) _) _ _ _);k_dflt (refine wpAny_call ?_;(refine' enterZ [ofString "buffer",ofString "start",ofString "end"] (l':=[(ofString "end",_),(ofString "start",_),(ofString "buffer",_)]) ?k1 ?k2 ?k3 ?k4 ?k5 ?kA ?kF ?kK ?k6 ?k7 ?k8 ?k9 ?kB ?kL ?_ ?c2 ?c3 ?c4 ?c5;k_extra "ez")))
  k_with "call ref" => ((fail_if_success have:=@e44_1);k_here;(with_reducible show wpAny _ _ (call (Value.ref 451) _) _ _ _);k_dflt (refine' Spec.use (ed_ahead _ ) ?B ?F ?X ?N ?P ?hr ?T ?hk ?hd ?hu ?_;k_extra "us1"; (case hr=>k_extra "h2");k_whole);intro v9 led9 h' tk' hP9;refine oa2 hP9 ?_;(try clear hP9);intro hv9 hl9;subst hv9;subst hl9;intro F' N';k_extra "nn")
  k_with "call ref" => ((fail_if_success have:=@e44_1);k_here;(with_reducible show wpAny _ _ (call (Value.ref 458) _) _ _ _);k_dflt (refine' Spec.use (ed_behind _ ?y0 ?y1) ?B ?F ?X ?N ?P ?hr ?T ?hk ?hd ?hu ?_;k_extra "us1";(case y0=>assumption);(case y1=>assumption);(case hr=>(repeat' first | exact Off.nil | exact off_of2 ‹_› ‹_› (by k_extra "sb") | (refine' Off.append ?_ ?_) | exact Off.none | exact Off.sub ‹_› (by k_extra "sb") | refine' Off.cons ?_ ?_ | exact ni_nil | refine' ni_cons ?_ ?_ | k_ne));k_whole);intro v9 led9 h' tk' hP9;refine oa2 hP9 ?_;(try clear hP9);intro hv9 z0;refine oe3 z0 ?_;(try clear z0);intro ct9 u19 ti9 hl9;subst hv9;subst hl9;intro F' N';k_extra "nn")
  k_with "call ref" => ((fail_if_success have:=@e44_1);k_here;(with_reducible show wpAny _ _ (call (Value.ref 444) _) _ _ _);k_dflt (refine' SpecF.use (ed_reached _ ?y0 ?y1 ?y2 ?y3) ?B ?F ?X ?N ?P ?hr ?T ?hk ?hd ?hu ?_;k_extra "us1";(case y0=>omega);(case y1=>omega);(case y2=>omega);(case y3=>omega);(case hr=>k_extra "h2");k_whole);intro v9 led9 fr9 h' tk' hP9;refine oe3 hP9 ?_;(try clear hP9);intro D9 t9a t9b z0;refine oa3 z0 ?_;(try clear z0);intro hv9 hl9 hfr9;subst hv9;subst hl9;subst hfr9;intro hf9 F' N';(have l9:=hf9 D9 (.head _));(have oD9:=notin_of ‹_› l9 (by k_extra "opq"));(try k_lt l9);k_extra "nn")
  k_with "call ref" => ((fail_if_success have:=@e44_1);k_here;(with_reducible show wpAny _ _ (call (Value.ref 153) _) _ _ _);k_dflt (refine' Spec.use (gt_delete _ ?y0 ?y1 ?y2 ?y3 ?y4 ?y5 ?y6) ?B ?F ?X ?N ?P ?hr ?T ?hk ?hd ?hu ?_;k_extra "us1";(case y0=>omega);(case y1=>omega);(case y2=>omega);(case y3=>omega);(case y4=>omega);(case y5=>omega);(case y6=>omega);(case hr=>k_extra "h2");k_whole);intro v9 led9 h' tk' hP9;refine oa2 hP9 ?_;(try clear hP9);intro z23 z0;refine oe1 z23 ?_;(try clear z23);intro r9 hv9;refine oe6 z0 ?_;(try clear z0);intro its9 n9 u91 u92 gs9 ge9 z1;refine oa6 z1 ?_;(try clear z1);intro hl9 e91 e92 e93 e94 e95;subst hv9;subst hl9;intro F' N';k_extra "nn")
  k_with "call ref" => ((fail_if_success have:=@e44_1);k_here;(with_reducible show wpAny _ _ (call (Value.ref 312) _) _ _ _);k_dflt (refine' Spec.useC (ledx:=[_,_,_]) (mk_deleted _ ?y0 ?y1 ?y2 ?y3 ?y4 ?y5 ?y6) ?B ?F ?X ?N ?C ?P ?hr ?T ?hk ?hd ?hu ?_;k_extra "us3";(case y0=>assumption);(case y1=>assumption);(case y2=>assumption);(case y3=>assumption);(case y4=>assumption);(case y5=>assumption);(case y6=>assumption);(case hr=>k_extra "h1");k_whole);intro v9 led9 h' tk' hP9;refine oa2 hP9 ?_;(try clear hP9);intro hv9 z0;refine oe1 z0 ?_;(try clear z0);intro EM9 z1;refine oa2 z1 ?_;(try clear z1);intro hl9 hM9;subst hv9;subst hl9;intro F' N';(replace N':=reorder (a:=[_,_,_]) (b:=List.flatMap _ _) N');k_extra "nn")
  trivial
end
section
namespace Z1
theorem c_ed_delete:P_ed_delete SpecC w A home pos (k26 0) T (k10 5) (k10 6) (k10 7) (k10 8) mark (k14 13) (k14 14) (k14 15) u1 (k14 16) (k14 17) (k14 18) (k14 19) (k14 20) (k14 21) (k14 22) (k14 23) (k14 9) t9 (k15 13) gs ge j size point its n (k12 3) o kvs I s_ e_:=by
  intro ok hj h hl ndm hM hof hp hlt hp2
  intro B F X N hr Tp hk hd hu ret
  simp only [List.cons_append,List.nil_append] at N
  obtain ⟨q0,q1,q2,q3,q4,q5,q6,q7⟩:=h
  refine and8 (ok.blk j hj) ?_;intro c1 c2 c3 c4 c5 c6 c7 c8
  have oE:Off [A.bd j,A.td j,A.c j] (I.flatMap (k26 0)):=off_of hM fun a ha=>hof a ((by k_extra "sb" : ∀ a∈[A.bd j,A.td j,A.c j],a∈[A.b j,A.bd j,A.t j,A.td j,A.c j,A.k j,A.kd j,A.r j,A.ls j]) a ha)
  have oM:Off (I.flatMap A.mAd) rest:=hr.sub (by k_extra "sb")
  have oR:Off [A.bd j,A.td j,A.c j] rest:=hr.sub (by k_extra "sb")
  have oA:=oE.append oR
  have r1:=oA.ne (d:=A.bd j) (by k_extra "mem")
  have r2:=oR.ne (d:=A.bd j) (by k_extra "mem")
  have xb:Away [A.b j,A.bd j,A.t j,A.td j,A.c j,A.k j,A.kd j,A.r j,A.ls j] (I.flatMap A.mAd):=hof
  have oH:Off (I.flatMap A.mAd) [(A.k j,instObj 322 (A.kd j)),(A.kd j,rowsD w (k14 23) (A.r j)),(A.r j,o)]:=Off.cons (xb _ (by k_extra "mem")) (Off.cons (xb _ (by k_extra "mem")) (Off.cons (xb _ (by k_extra "mem")) Off.nil))
  have lo:=ok.low j hj
  have mn:min e_ s_=s_:=by omega
  have mx:max e_ s_=e_:=by omega
  revert X;k_fill;intro X
  refine wpAny_call ?_
  k_dflt (refine' enterZ [ofString "buffer",ofString "start",ofString "end"] (l':=[(ofString "end",_),(ofString "start",_),(ofString "buffer",_)]) ?k1 ?k2 ?k3 ?k4 ?k5 ?kA ?kF ?kK ?k6 ?k7 ?k8 ?k9 ?kB ?kL ?_ ?c2 ?c3 ?c4 ?c5;k_extra "ez")
  k_steps
  all_goals (try (exfalso;omega))
  all_goals (
    rename News _ _ _ _=>N9
    rename Marks _ _ _ _ _ _=>M9
    simp only [mn,mx] at M9
    refine' ret _ _ _ _ ⟨⟨_,rfl⟩,_,_,rfl,BfOk.of (T:=T) (kvs:=kvs) ?ep ?ez ?bi,M9⟩ ?F (News.sub N9 ?S)
    (case F=>assumption)
    (case S=>(simp only [List.cons_append,List.nil_append,List.append_assoc];(repeat' first | exact sub_refl | refine' sub_cons ?_ ?_ | exact Take.head | refine' Take.tail ?_ | refine' sub_tail ?_)))
    (case ep=>(split <;> omega))
    (case ez=>omega)
    (case bi=>(refine ⟨?_,?_,?_,?_,?_,?_,?_,?_⟩ <;> first | omega | assumption)))
end Z1
theorem h_22:∀ j,j<22→∀ u,Pf j u:=histS 21 h_21 (gen 21 h_21 (by with_unfolding_all exact Z1.c_ed_delete))
theorem ed_delete (w:World) {A:Ad} {home pos:Int→Int} {EM:Int→Led} {T:Nat→Tok} {vn vm ct st mark:Value} {tp tb tz u1 g1 g2 g3 g4 g5 g6 g7 tr t8 t9:Tok} {ticks gs ge j size point:Int} {its:Array Value} {n lim:Nat} {o:Obj} {kvs:List (Prod Int Value)} {I:List Int} {s_ e_:Int} : P_ed_delete Spec w A home pos EM T vn vm ct st mark tp tb tz u1 g1 g2 g3 g4 g5 g6 g7 tr t8 t9 ticks gs ge j size point its n lim o kvs I s_ e_:=fun ok hj h hl ndm hM hof hp hlt hp2 p loose mean mg mb dp un gd cn cs a ccd cl outer A₀ base h₀ L m rest s Q E=>by with_unfolding_all exact h_22 21 (Nat.lt_succ_self 21) (sk0 |>.set 1 0 w |>.set 25 0 A |>.set 21 0 home |>.set 21 2 pos |>.set 26 0 EM |>.set 27 0 T |>.set 10 5 vn |>.set 10 6 vm |>.set 10 7 ct |>.set 10 8 st |>.set 10 4 mark |>.set 14 13 tp |>.set 14 14 tb |>.set 14 15 tz |>.set 14 11 u1 |>.set 14 16 g1 |>.set 14 17 g2 |>.set 14 18 g3 |>.set 14 19 g4 |>.set 14 20 g5 |>.set 14 21 g6 |>.set 14 22 g7 |>.set 14 23 tr |>.set 14 9 t8 |>.set 14 10 t9 |>.set 15 13 ticks |>.set 15 1 gs |>.set 15 2 ge |>.set 15 10 j |>.set 15 11 size |>.set 15 12 point |>.set 9 0 its |>.set 12 0 n |>.set 12 3 lim |>.set 16 0 o |>.set 17 0 kvs |>.set 24 1 I |>.set 15 17 s_ |>.set 15 18 e_ |>.ctx p loose mean mg mb dp un gd cn cs a ccd cl outer A₀ base h₀ L m rest s Q E) ok hj h hl ndm hM hof hp hlt hp2
theorem e44_1:True:=trivial
end
end Mine
namespace Mine
theorem mem_stored {kvs:List (Int × Value)} {i a:Int} {x v:Value} : (a,v)∈stored kvs i x ↔ (a=i∧v=x)∨(a≠i∧(a,v)∈kvs):=by
  unfold stored
  by_cases h:kvs.any (fun kv=>decide (kv.1=i))=true
  · rw [if_pos h,List.mem_map]
    refine oe1 (List.any_eq_true.mp h) ?_;intro z24 z0;obtain ⟨b,y⟩:=z24;refine oa2 z0 ?_;(try clear z0);intro hb he
    have he:b=i:=by simpa using he
    subst he
    constructor
    · rintro ⟨⟨c,z⟩,hc,e⟩
      by_cases hcb:c=b
      · rw [if_pos hcb] at e
        cases e
        exact .inl ⟨hcb,rfl⟩
      · rw [if_neg hcb] at e
        cases e
        exact .inr ⟨hcb,hc⟩
    · rintro (⟨rfl,rfl⟩ | ⟨h1,h2⟩)
      · exact ⟨_,hb,if_pos rfl⟩
      · exact ⟨_,h2,if_neg h1⟩
  · rw [if_neg h,List.mem_append,List.mem_singleton]
    have hn:∀ q∈kvs,q.1≠i:=fun q hq e=>h (List.any_eq_true.mpr ⟨q,hq,by simpa using e⟩)
    constructor
    · rintro (h1 | h1)
      · exact .inr ⟨hn _ h1,h1⟩
      · cases h1
        exact .inl ⟨rfl,rfl⟩
    · rintro (⟨rfl,rfl⟩ | ⟨_,h2⟩)
      · exact .inr rfl
      · exact .inl h2
theorem mem_without {kvs:List (Int × Value)} {i a:Int} {v:Value} : (a,v)∈without kvs i ↔ a≠i∧(a,v)∈kvs:=by
  unfold without
  rw [List.mem_filter]
  simp only [decide_eq_true_eq]
  exact And.comm
theorem upd_same {f:Int→Int} {i v:Int} : upd f i v i=v:=if_pos rfl
theorem upd_other {f:Int→Int} {i v x:Int} (h:x≠i) : upd f i v x=f x:=if_neg h
theorem rows_put {A:Ad} {I:List Int} {home:Int→Int} {i j:Int} {kvs:List (Int × Value)} (hi:i∈I) (h:RowsOk A I home j kvs) : RowsOk A I (upd home i j) j (stored kvs i (.ref (A.ma i))):=by
  intro a v
  rw [mem_stored,h a v]
  constructor
  · rintro (⟨rfl,rfl⟩ | ⟨h1,h2,h3,h4⟩)
    · exact ⟨hi,upd_same,rfl⟩
    · exact ⟨h2,(upd_other h1).trans h3,h4⟩
  · rintro ⟨h1,h2,h3⟩
    by_cases e:a=i
    · subst e
      exact .inl ⟨rfl,h3⟩
    · exact .inr ⟨e,h1,(upd_other e).symm.trans h2,h3⟩
theorem rows_drop {A:Ad} {I:List Int} {home:Int→Int} {i h j:Int} {kvs:List (Int × Value)} (hn:j≠h) (k:RowsOk A I home h kvs) : RowsOk A I (upd home i j) h (without kvs i):=by
  intro a v
  rw [mem_without,k a v]
  constructor
  · rintro ⟨h1,h2,h3,h4⟩
    exact ⟨h2,(upd_other h1).trans h3,h4⟩
  · rintro ⟨h1,h2,h3⟩
    have e:a≠i:=by
      rintro rfl
      rw [upd_same] at h2
      exact hn h2
    exact ⟨e,h1,(upd_other e).symm.trans h2,h3⟩
theorem rows_same {A:Ad} {I:List Int} {home:Int→Int} {i h j:Int} {kvs:List (Int × Value)} (hn:j≠h) (hm:home i≠h) (k:RowsOk A I home h kvs) : RowsOk A I (upd home i j) h kvs:=by
  intro a v
  rw [k a v]
  by_cases e:a=i
  · subst e
    rw [upd_same]
    exact ⟨fun x=>absurd x.2.1 hm,fun x=>absurd x.2.1 hn⟩
  · rw [upd_other e]
theorem keys_le {l:List Int} (nd:l.Nodup) (h:∀ a∈l,a∈ids) : l.length≤4 :=
  Nat.le_trans (nd.length_le_of_subset h) (by decide)
theorem rows_len {w:World} {A:Ad} {home:Int→Int} {j:Int} {o:Obj} {kvs:List (Int × Value)} (hd:IsRows w o kvs) (k:RowsOk A ids home j kvs) : kvs.length≤8:=by
  have:=keys_le (rows_nd hd) fun a ha=>by
    refine oe1 (List.mem_map.mp ha) ?_;intro z25 z0;obtain ⟨b,v⟩:=z25;refine oa2 z0 ?_;(try clear z0);intro hb z26;obtain rfl:=z26
    exact ((k b v).mp hb).1
  rw [List.length_map] at this
  omega
theorem Spec.lift {w:World} {f:Addr} {args:List Value} {dz:Nat} {led more l:Led} {wr wr2:List Addr} {P:Value→Led→Prop} {Post:Value→Led→Prop} (S:Spec w f args dz led wr P) (hl:∀ p,p∈led++more→p∈l) (ho:Off wr more) (hw:∀ a∈wr,a∈wr2)
    (hp:∀ v led',P v led'→∃ l',(∀ p∈l',p∈led'++more)∧Post v l') : Spec w f args dz l wr2 Post:=by
  intro p loose mean mg mb dp un gd cn cs a ccd cl outer A₀ base h₀ L m rest s Q E B F X N hr T hk hd hu ret
  refine S p loose mean mg mb dp un gd cn cs a ccd cl outer A₀ base h₀ L m (more++rest) s Q E B F X (fun q hq=>N q ?_) (ho.append (hr.sub hw)) T hk hd hu fun v led' h' tk' hP F' N'=>?_
  · rw [← List.append_assoc] at hq
    exact List.mem_append.mpr ((List.mem_append.mp hq).imp (hl q) id)
  · refine oe1 (hp v led' hP) ?_;intro l' z0;refine oa2 z0 ?_;(try clear z0);intro hs hq
    refine ret v l' h' tk' hq F' fun q hq=>N' q ?_
    rw [← List.append_assoc]
    exact List.mem_append.mpr ((List.mem_append.mp hq).imp (hs q) id)
end Mine
namespace Mine
theorem Ad.Ok.mlt {A:Ad} (ok:A.Ok) {i j:Int} (hi:i∈ids) (hj:j∈sides) : @LT.lt Nat _ (A.ls j) (A.ma i)∧@LT.lt Nat _ (A.ls j) (A.md i)∧@Ne Nat (A.md i) (A.ma i):=by
  refine ⟨ok.apart _ (List.mem_flatMap.mpr ⟨j,hj,by simp [Ad.bAd]⟩) _ (List.mem_flatMap.mpr ⟨i,hi,by simp [Ad.mAd]⟩),ok.apart _ (List.mem_flatMap.mpr ⟨j,hj,by simp [Ad.bAd]⟩) _ (List.mem_flatMap.mpr ⟨i,hi,by simp [Ad.mAd]⟩),?_⟩
  have:=(List.pairwise_flatMap.mp ok.ndm).1 i hi
  have h:A.ma i≠A.md i:=by simpa [Ad.mAd] using this
  exact fun e=>h e.symm
theorem Ad.Ok.sep {A:Ad} (ok:A.Ok) {h j:Int} (hh:h∈sides) (hj:j∈sides) (hn:h≠j) : @LT.lt Nat _ (A.ls h) (A.bd j)∨@LT.lt Nat _ (A.ls j) (A.bd h):=by
  have h1:=sides_iff.mp hh
  have h2:=sides_iff.mp hj
  have:(h=0∧j=1)∨(h=1∧j=0):=by omega
  rcases this with ⟨rfl,rfl⟩ | ⟨rfl,rfl⟩
  · exact .inl ok.two
  · exact .inr ok.two
end Mine
namespace Mine
section
variable (w:World) {A:Ad} {I:List Int} {home pos:Int→Int} {EM:Int→Led} {T:Nat→Tok} {vn vm ct st mark:Value} {tp tb tz u1 g1 g2 g3 g4 g5 g6 g7 tr t8 t9:Tok} {ticks gs ge j size point place:Int} {its:Array Value} {n lim:Nat} {o:Obj} {kvs:List (Int × Value)}
variable {T':Nat→Tok} {vn' vm' x1 x2 x3 x4 x5 x6 x7 v v0:Value} {t1 t2 t3 t4 t5 t6 tr':Tok} {i h p0:Int} {o' X1 X2 X3 X4:Obj} {kvs':List (Int × Value)}
theorem kw51_1:True:=by
  k_with "call ref" => ((fail_if_success have:=@e51_1);k_here;(with_reducible show wpAny _ _ (call (Value.ref 284) _) _ _ _);k_dflt (refine' Spec.use (mk_put _ ?y0 ?y1) ?B ?F ?X ?N ?P ?hr ?T ?hk ?hd ?hu ?_;k_extra "us1";(case y0=>assumption);(case y1=>assumption);(case hr=>k_extra "h2");k_whole);intro v9 led9 h' tk' hP9;refine oa2 hP9 ?_;(try clear hP9);intro hv9 z0;refine oe2 z0 ?_;(try clear z0);intro o9 u9 z1;refine oa2 z1 ?_;(try clear z1);intro hl9 hd9;subst hv9;subst hl9;intro F' N';k_extra "nn")
  k_with "call ref" => ((fail_if_success have:=@e51_1);k_here;(with_reducible show wpAny _ _ (call (Value.ref 291) _) _ _ _);k_dflt (refine' Spec.use (mk_drop _ ?y0 ?y1 ?y2 ?y3) ?B ?F ?X ?N ?P ?hr ?T ?hk ?hd ?hu ?_;k_extra "us1";(case y0=>assumption);(case y1=>assumption);(case y2=>assumption);(case y3=>assumption);(case hr=>k_extra "h2");k_whole);intro v9 led9 h' tk' hP9;refine oa2 hP9 ?_;(try clear hP9);intro hv9 z0;refine oe1 z0 ?_;(try clear z0);intro o9 z1;refine oa2 z1 ?_;(try clear z1);intro hl9 hd9;subst hv9;subst hl9;intro F' N';k_extra "nn")
  k_with "call ref" => ((fail_if_success have:=@e51_1);k_here;(with_reducible show wpAny _ _ (call (Value.ref 376) _) _ _ _);k_dflt (refine' Spec.use (bf_size _ ?y0 ?y1) ?B ?F ?X ?N ?P ?hr ?T ?hk ?hd ?hu ?_;k_extra "us1";(case y0=>assumption);(case y1=>assumption);(case hr=>k_extra "h2");k_whole);intro v9 led9 h' tk' hP9;refine oa2 hP9 ?_;(try clear hP9);intro z27 hl9;refine oe1 z27 ?_;(try clear z27);intro t9 hv9;subst hv9;subst hl9;intro F' N';k_extra "nn")
  trivial
theorem sm_none0 (ok:A.Ok) (hi:i∈ids) : Spec w 48 [.ref (A.ma i),.none,v] 4 [(A.ma i,instObj 254 (A.md i)),(A.md i,mkD w t1 t2 t3 t4 (.int i t5) .none (.int p0 t6))] [A.md i] (fun v led=>v=.none∧∃ u,led=[(A.ma i,instObj 254 (A.md i)),(A.md i,mkD w t1 t2 t3 t4 (.int i t5) .none (.int 0 u))]):=by
  intro p loose mean mg mb dp un gd cn cs a ccd cl outer A₀ base h₀ L m rest s Q E B F X N hr Tp hk hd hu ret
  simp only [List.cons_append,List.nil_append] at N
  refine oa3 (ok.mlt hi (j:=0) (by decide)) ?_;intro m1 m2 m3
  have r0:=hr.ne (d:=A.md i) (by k_extra "mem")
  revert X;k_fill;intro X
  refine wpAny_call ?_
  k_dflt (refine' enterZ [ofString "marker",ofString "buffer",ofString "place"] (l':=[(ofString "place",_),(ofString "buffer",_),(ofString "marker",_)]) ?k1 ?k2 ?k3 ?k4 ?k5 ?kA ?kF ?kK ?k6 ?k7 ?k8 ?k9 ?kB ?kL ?_ ?c2 ?c3 ?c4 ?c5;k_extra "ez")
  k_steps
  all_goals (
    rename News h₀ L _ _=>N9
    skip
    refine' ret _ _ _ _ ⟨rfl,_,rfl⟩ ?F (led_end ?P ?S N9)
    k_extra "pk"
    (case S=>k_extra "sb")
    (case F=>assumption))
end
section
namespace Z1
theorem c_sm_noneB:P_sm_noneB SpecC w A (k27 1) (k10 12) (k10 13) (k10 14) (k10 15) (k10 16) (k10 17) (k10 18) (k10 19) (k10 20) v (k10 3) t1 t2 t3 t4 t5 t6 (k14 24) i (k15 19) p0 (k16 1) (k16 2) (k16 3) (k16 4) (k16 5) kvs':=by
  intro ok hi hh hro hz hv
  intro B F X N hr Tp hk hd hu ret
  simp only [List.cons_append,List.nil_append] at N
  refine oa3 (ok.mlt hi hh) ?_;intro m1 m2 m3
  refine and8 (ok.blk (k15 19) hh) ?_;intro c1 c2 c3 c4 c5 c6 c7 c8
  have lo:=ok.low (k15 19) hh
  have r0:=hr.ne (d:=A.md i) (by k_extra "mem")
  have r1:=hr.ne (d:=A.r (k15 19)) (by k_extra "mem")
  revert X;k_fill;intro X
  refine wpAny_call ?_
  k_dflt (refine' enterZ [ofString "marker",ofString "buffer",ofString "place"] (l':=[(ofString "place",_),(ofString "buffer",_),(ofString "marker",_)]) ?k1 ?k2 ?k3 ?k4 ?k5 ?kA ?kF ?kK ?k6 ?k7 ?k8 ?k9 ?kB ?kL ?_ ?c2 ?c3 ?c4 ?c5;k_extra "ez")
  k_steps
  all_goals (
    rename News h₀ L _ _=>N9
    rename IsRows _ _ _=>i9
    refine' ret _ _ _ _ ⟨rfl,_,_,rfl,i9⟩ ?F (led_end ?P ?S N9)
    k_extra "pk"
    (case S=>k_extra "sb")
    (case F=>assumption))
end Z1
theorem h_23:∀ j,j<23→∀ u,Pf j u:=histS 22 h_22 (gen 22 h_22 (by with_unfolding_all exact Z1.c_sm_noneB))
theorem sm_noneB (w:World) {A:Ad} {T':Nat→Tok} {vn' vm' x1 x2 x3 x4 x5 x6 x7 v v0:Value} {t1 t2 t3 t4 t5 t6 tr':Tok} {i h p0:Int} {o' X1 X2 X3 X4:Obj} {kvs':List (Prod Int Value)} : P_sm_noneB Spec w A T' vn' vm' x1 x2 x3 x4 x5 x6 x7 v v0 t1 t2 t3 t4 t5 t6 tr' i h p0 o' X1 X2 X3 X4 kvs':=fun ok hi hh hro hz hv p loose mean mg mb dp un gd cn cs a ccd cl outer A₀ base h₀ L m rest s Q E=>by with_unfolding_all exact h_23 22 (Nat.lt_succ_self 22) (sk0 |>.set 1 0 w |>.set 25 0 A |>.set 27 1 T' |>.set 10 12 vn' |>.set 10 13 vm' |>.set 10 14 x1 |>.set 10 15 x2 |>.set 10 16 x3 |>.set 10 17 x4 |>.set 10 18 x5 |>.set 10 19 x6 |>.set 10 20 x7 |>.set 10 21 v |>.set 10 3 v0 |>.set 14 2 t1 |>.set 14 3 t2 |>.set 14 4 t3 |>.set 14 5 t4 |>.set 14 6 t5 |>.set 14 7 t6 |>.set 14 24 tr' |>.set 15 7 i |>.set 15 19 h |>.set 15 8 p0 |>.set 16 1 o' |>.set 16 2 X1 |>.set 16 3 X2 |>.set 16 4 X3 |>.set 16 5 X4 |>.set 17 1 kvs' |>.ctx p loose mean mg mb dp un gd cn cs a ccd cl outer A₀ base h₀ L m rest s Q E) ok hi hh hro hz hv
end
section
namespace Z1
theorem c_sm_put0:P_sm_put0 SpecC w A home T (k10 5) (k10 6) (k10 7) (k10 8) mark (k14 13) (k14 14) (k14 15) u1 (k14 16) (k14 17) (k14 18) (k14 19) (k14 20) (k14 21) (k14 22) (k14 23) t9 (k15 13) gs ge j size point place its n (k12 3) o kvs t1 t2 t3 t4 t5 t6 i p0:=by
  intro ok hi hj hin hl
  intro B F X N hr Tp hk hd hu ret
  simp only [List.cons_append,List.nil_append] at N
  refine oa3 (ok.mlt hi hj) ?_;intro m1 m2 m3
  refine and8 (ok.blk j hj) ?_;intro c1 c2 c3 c4 c5 c6 c7 c8
  have lo:=ok.low j hj
  have hro:=hin.ro
  have hzk:=hin.len
  have r0:=hr.ne (d:=A.md i) (by k_extra "mem")
  have r1:=hr.ne (d:=A.r j) (by k_extra "mem")
  revert X;k_fill;intro X
  refine wpAny_call ?_
  k_dflt (refine' enterZ [ofString "marker",ofString "buffer",ofString "place"] (l':=[(ofString "place",_),(ofString "buffer",_),(ofString "marker",_)]) ?k1 ?k2 ?k3 ?k4 ?k5 ?kA ?kF ?kK ?k6 ?k7 ?k8 ?k9 ?kB ?kL ?_ ?c2 ?c3 ?c4 ?c5;k_extra "ez")
  k_steps
  all_goals (
    rename News h₀ L _ _=>N9
    rename IsRows _ _ _=>i9
    refine' ret _ _ _ _ ⟨rfl,_,_,rfl,i9⟩ ?F (led_end ?P ?S N9)
    k_extra "pk"
    (case S=>k_extra "sb")
    (case F=>assumption))
end Z1
theorem h_24:∀ j,j<24→∀ u,Pf j u:=histS 23 h_23 (gen 23 h_23 (by with_unfolding_all exact Z1.c_sm_put0))
theorem sm_put0 (w:World) {A:Ad} {home:Int→Int} {T:Nat→Tok} {vn vm ct st mark:Value} {tp tb tz u1 g1 g2 g3 g4 g5 g6 g7 tr t9:Tok} {ticks gs ge j size point place:Int} {its:Array Value} {n lim:Nat} {o:Obj} {kvs:List (Prod Int Value)} {t1 t2 t3 t4 t5 t6:Tok} {i p0:Int} : P_sm_put0 Spec w A home T vn vm ct st mark tp tb tz u1 g1 g2 g3 g4 g5 g6 g7 tr t9 ticks gs ge j size point place its n lim o kvs t1 t2 t3 t4 t5 t6 i p0:=fun ok hi hj hin hl p loose mean mg mb dp un gd cn cs a ccd cl outer A₀ base h₀ L m rest s Q E=>by with_unfolding_all exact h_24 23 (Nat.lt_succ_self 23) (sk0 |>.set 1 0 w |>.set 25 0 A |>.set 21 0 home |>.set 27 0 T |>.set 10 5 vn |>.set 10 6 vm |>.set 10 7 ct |>.set 10 8 st |>.set 10 4 mark |>.set 14 13 tp |>.set 14 14 tb |>.set 14 15 tz |>.set 14 11 u1 |>.set 14 16 g1 |>.set 14 17 g2 |>.set 14 18 g3 |>.set 14 19 g4 |>.set 14 20 g5 |>.set 14 21 g6 |>.set 14 22 g7 |>.set 14 23 tr |>.set 14 10 t9 |>.set 15 13 ticks |>.set 15 1 gs |>.set 15 2 ge |>.set 15 10 j |>.set 15 11 size |>.set 15 12 point |>.set 15 14 place |>.set 9 0 its |>.set 12 0 n |>.set 12 3 lim |>.set 16 0 o |>.set 17 0 kvs |>.set 14 2 t1 |>.set 14 3 t2 |>.set 14 4 t3 |>.set 14 5 t4 |>.set 14 6 t5 |>.set 14 7 t6 |>.set 15 7 i |>.set 15 8 p0 |>.ctx p loose mean mg mb dp un gd cn cs a ccd cl outer A₀ base h₀ L m rest s Q E) ok hi hj hin hl
end
section
namespace Z1
theorem c_sm_putS:P_sm_putS SpecC w A home T (k10 5) (k10 6) (k10 7) (k10 8) mark (k14 13) (k14 14) (k14 15) u1 (k14 16) (k14 17) (k14 18) (k14 19) (k14 20) (k14 21) (k14 22) (k14 23) t9 (k15 13) gs ge j size point place its n (k12 3) o kvs t1 t2 t3 t4 t5 t6 i p0:=by
  intro ok hi hj hin hl
  intro B F X N hr Tp hk hd hu ret
  simp only [List.cons_append,List.nil_append] at N
  refine oa3 (ok.mlt hi hj) ?_;intro m1 m2 m3
  refine and8 (ok.blk j hj) ?_;intro c1 c2 c3 c4 c5 c6 c7 c8
  have lo:=ok.low j hj
  have hro:=hin.ro
  have hzk:=hin.len
  have r0:=hr.ne (d:=A.md i) (by k_extra "mem")
  have r1:=hr.ne (d:=A.r j) (by k_extra "mem")
  revert X;k_fill;intro X
  refine wpAny_call ?_
  k_dflt (refine' enterZ [ofString "marker",ofString "buffer",ofString "place"] (l':=[(ofString "place",_),(ofString "buffer",_),(ofString "marker",_)]) ?k1 ?k2 ?k3 ?k4 ?k5 ?kA ?kF ?kK ?k6 ?k7 ?k8 ?k9 ?kB ?kL ?_ ?c2 ?c3 ?c4 ?c5;k_extra "ez")
  k_steps
  all_goals (
    rename News h₀ L _ _=>N9
    rename IsRows _ _ _=>i9
    refine' ret _ _ _ _ ⟨rfl,_,_,rfl,i9⟩ ?F (led_end ?P ?S N9)
    k_extra "pk"
    (case S=>k_extra "sb")
    (case F=>assumption))
end Z1
theorem h_25:∀ j,j<25→∀ u,Pf j u:=histS 24 h_24 (gen 24 h_24 (by with_unfolding_all exact Z1.c_sm_putS))
theorem sm_putS (w:World) {A:Ad} {home:Int→Int} {T:Nat→Tok} {vn vm ct st mark:Value} {tp tb tz u1 g1 g2 g3 g4 g5 g6 g7 tr t9:Tok} {ticks gs ge j size point place:Int} {its:Array Value} {n lim:Nat} {o:Obj} {kvs:List (Prod Int Value)} {t1 t2 t3 t4 t5 t6:Tok} {i p0:Int} : P_sm_putS Spec w A home T vn vm ct st mark tp tb tz u1 g1 g2 g3 g4 g5 g6 g7 tr t9 ticks gs ge j size point place its n lim o kvs t1 t2 t3 t4 t5 t6 i p0:=fun ok hi hj hin hl p loose mean mg mb dp un gd cn cs a ccd cl outer A₀ base h₀ L m rest s Q E=>by with_unfolding_all exact h_25 24 (Nat.lt_succ_self 24) (sk0 |>.set 1 0 w |>.set 25 0 A |>.set 21 0 home |>.set 27 0 T |>.set 10 5 vn |>.set 10 6 vm |>.set 10 7 ct |>.set 10 8 st |>.set 10 4 mark |>.set 14 13 tp |>.set 14 14 tb |>.set 14 15 tz |>.set 14 11 u1 |>.set 14 16 g1 |>.set 14 17 g2 |>.set 14 18 g3 |>.set 14 19 g4 |>.set 14 20 g5 |>.set 14 21 g6 |>.set 14 22 g7 |>.set 14 23 tr |>.set 14 10 t9 |>.set 15 13 ticks |>.set 15 1 gs |>.set 15 2 ge |>.set 15 10 j |>.set 15 11 size |>.set 15 12 point |>.set 15 14 place |>.set 9 0 its |>.set 12 0 n |>.set 12 3 lim |>.set 16 0 o |>.set 17 0 kvs |>.set 14 2 t1 |>.set 14 3 t2 |>.set 14 4 t3 |>.set 14 5 t4 |>.set 14 6 t5 |>.set 14 7 t6 |>.set 15 7 i |>.set 15 8 p0 |>.ctx p loose mean mg mb dp un gd cn cs a ccd cl outer A₀ base h₀ L m rest s Q E) ok hi hj hin hl
end
section
namespace Z1
theorem c_sm_move:P_sm_move SpecC w A home T (k10 5) (k10 6) (k10 7) (k10 8) mark (k14 13) (k14 14) (k14 15) u1 (k14 16) (k14 17) (k14 18) (k14 19) (k14 20) (k14 21) (k14 22) (k14 23) t9 (k15 13) gs ge j size point place its n (k12 3) o kvs (k27 1) (k10 12) (k10 13) (k10 14) (k10 15) (k10 16) (k10 17) (k10 18) (k10 19) (k10 20) (k10 3) t1 t2 t3 t4 t5 t6 (k14 24) i (k15 19) p0 (k16 1) (k16 2) (k16 3) (k16 4) (k16 5) kvs':=by
  intro ok hi hj hh hne hro' hz' hv hin hl
  intro B F X N hr Tp hk hd hu ret
  simp only [List.cons_append,List.nil_append] at N
  refine oa3 (ok.mlt hi hj) ?_;intro m1 m2 m3
  refine oa3 (ok.mlt hi hh) ?_;intro m4 m5 m6
  refine and8 (ok.blk j hj) ?_;intro c1 c2 c3 c4 c5 c6 c7 c8
  refine and8 (ok.blk (k15 19) hh) ?_;intro d1 d2 d3 d4 d5 d6 d7 d8
  have sep:=ok.sep hh hj hne
  have lo:=ok.low j hj
  have lo':=ok.low (k15 19) hh
  have hro:=hin.ro
  have hzk:=hin.len
  have r0:=hr.ne (d:=A.md i) (by k_extra "mem")
  have r1:=hr.ne (d:=A.r (k15 19)) (by k_extra "mem")
  have r2:=hr.ne (d:=A.r j) (by k_extra "mem")
  revert X;k_fill;intro X
  refine wpAny_call ?_
  k_dflt (refine' enterZ [ofString "marker",ofString "buffer",ofString "place"] (l':=[(ofString "place",_),(ofString "buffer",_),(ofString "marker",_)]) ?k1 ?k2 ?k3 ?k4 ?k5 ?kA ?kF ?kK ?k6 ?k7 ?k8 ?k9 ?kB ?kL ?_ ?c2 ?c3 ?c4 ?c5;k_extra "ez")
  k_steps
  all_goals (
    rename News h₀ L _ _=>N9
    rename IsRows _ _ (stored _ _ _)=>i9;rename IsRows _ _ (without _ _)=>i8
    refine' ret _ _ _ _ ⟨rfl,_,_,_,rfl,i8,i9⟩ ?F (led_end ?P ?S N9)
    k_extra "pk"
    (case S=>k_extra "sb")
    (case F=>assumption))
end Z1
theorem h_26:∀ j,j<26→∀ u,Pf j u:=histS 25 h_25 (gen 25 h_25 (by with_unfolding_all exact Z1.c_sm_move))
theorem sm_move (w:World) {A:Ad} {home:Int→Int} {T:Nat→Tok} {vn vm ct st mark:Value} {tp tb tz u1 g1 g2 g3 g4 g5 g6 g7 tr t9:Tok} {ticks gs ge j size point place:Int} {its:Array Value} {n lim:Nat} {o:Obj} {kvs:List (Prod Int Value)} {T':Nat→Tok} {vn' vm' x1 x2 x3 x4 x5 x6 x7 v0:Value} {t1 t2 t3 t4 t5 t6 tr':Tok} {i h p0:Int} {o' X1 X2 X3 X4:Obj} {kvs':List (Prod Int Value)} : P_sm_move Spec w A home T vn vm ct st mark tp tb tz u1 g1 g2 g3 g4 g5 g6 g7 tr t9 ticks gs ge j size point place its n lim o kvs T' vn' vm' x1 x2 x3 x4 x5 x6 x7 v0 t1 t2 t3 t4 t5 t6 tr' i h p0 o' X1 X2 X3 X4 kvs':=fun ok hi hj hh hne hro' hz' hv hin hl p loose mean mg mb dp un gd cn cs a ccd cl outer A₀ base h₀ L m rest s Q E=>by with_unfolding_all exact h_26 25 (Nat.lt_succ_self 25) (sk0 |>.set 1 0 w |>.set 25 0 A |>.set 21 0 home |>.set 27 0 T |>.set 10 5 vn |>.set 10 6 vm |>.set 10 7 ct |>.set 10 8 st |>.set 10 4 mark |>.set 14 13 tp |>.set 14 14 tb |>.set 14 15 tz |>.set 14 11 u1 |>.set 14 16 g1 |>.set 14 17 g2 |>.set 14 18 g3 |>.set 14 19 g4 |>.set 14 20 g5 |>.set 14 21 g6 |>.set 14 22 g7 |>.set 14 23 tr |>.set 14 10 t9 |>.set 15 13 ticks |>.set 15 1 gs |>.set 15 2 ge |>.set 15 10 j |>.set 15 11 size |>.set 15 12 point |>.set 15 14 place |>.set 9 0 its |>.set 12 0 n |>.set 12 3 lim |>.set 16 0 o |>.set 17 0 kvs |>.set 27 1 T' |>.set 10 12 vn' |>.set 10 13 vm' |>.set 10 14 x1 |>.set 10 15 x2 |>.set 10 16 x3 |>.set 10 17 x4 |>.set 10 18 x5 |>.set 10 19 x6 |>.set 10 20 x7 |>.set 10 3 v0 |>.set 14 2 t1 |>.set 14 3 t2 |>.set 14 4 t3 |>.set 14 5 t4 |>.set 14 6 t5 |>.set 14 7 t6 |>.set 14 24 tr' |>.set 15 7 i |>.set 15 19 h |>.set 15 8 p0 |>.set 16 1 o' |>.set 16 2 X1 |>.set 16 3 X2 |>.set 16 4 X3 |>.set 16 5 X4 |>.set 17 1 kvs' |>.ctx p loose mean mg mb dp un gd cn cs a ccd cl outer A₀ base h₀ L m rest s Q E) ok hi hj hh hne hro' hz' hv hin hl
theorem e51_1:True:=trivial
end
end Mine
namespace Mine
theorem blk_perm {I:List Int} {E:Int→Led} {i:Int} (nd:I.Nodup) (hi:i∈I) : (I.flatMap E).Perm (E i++blkO I E i):=by
  induction I with
  | nil=>cases hi
  | cons a r ih =>
    rw [List.nodup_cons] at nd
    by_cases e:a=i
    · subst e
      have:r.filter (fun j=>decide (j≠a))=r:=List.filter_eq_self.mpr fun b hb=>by
        have:b≠a:=fun e=>nd.1 (e ▸ hb)
        simpa using this
      simp only [blkO,List.flatMap_cons,List.filter_cons,ne_eq,not_true,decide_false,Bool.false_eq_true,if_false,this]
      exact List.Perm.refl _
    · have hi':i∈r:=(List.mem_cons.mp hi).resolve_left fun x=>e x.symm
      have:=ih nd.2 hi'
      have hd:decide (a≠i)=true:=by simpa using e
      simp only [blkO,List.flatMap_cons,List.filter_cons,hd,if_true] at this ⊢
      refine (List.Perm.append_left _ this).trans ?_
      rw [← List.append_assoc,← List.append_assoc]
      exact List.Perm.append_right _ List.perm_append_comm
theorem Ad.Ok.nda {A:Ad} (ok:A.Ok) : A.all.Nodup:=by
  refine List.nodup_append.mpr ⟨ok.ndm,ok.ndb,fun a ha b hb e=>?_⟩
  subst e
  exact absurd (ok.apart _ hb _ ha) (Nat.lt_irrefl _)
theorem off_of_perm {l a b:Led} {wr:List Addr} (nd:(l.map (·.1)).Nodup) (p:l.Perm (a++b)) (hw:∀ x∈wr,x∈a.map (·.1)) : Off wr b:=by
  intro q hq hm
  have nd':((a++b).map (·.1)).Nodup:=(p.map _).nodup_iff.mp nd
  rw [List.map_append,List.nodup_append] at nd'
  exact nd'.2.2 _ (hw _ hm) _ (List.mem_map.mpr ⟨q,hq,rfl⟩) rfl
theorem St.use {w:World} {A:Ad} {f:Addr} {args:List Value} {dz:Nat} {l led more:Led} {wr:List Addr} {P:Value→Led→Prop} {Post:Value→Led→Prop} (ok:A.Ok) (ha:l.map (·.1)=A.all) (pm:l.Perm (led++more)) (S:Spec w f args dz led wr P) (hw:∀ x∈wr,x∈led.map (·.1))
    (hp:∀ v led',P v led'→∃ l',(∀ p∈l',p∈led'++more)∧Post v l') : Spec w f args dz l A.all Post:=by
  refine Spec.lift S (fun p hp=>pm.mem_iff.mpr hp) (off_of_perm (ha ▸ ok.nda) pm hw) (fun a h=>?_) hp
  rw [← ha]
  refine oe1 (List.mem_map.mp (hw a h)) ?_;intro q z0;refine oa2 z0 ?_;(try clear z0);intro hq z28;obtain rfl:=z28
  exact List.mem_map.mpr ⟨q,pm.mem_iff.mpr (List.mem_append.mpr (.inl hq)),rfl⟩
theorem St.adr {w:World} {A:Ad} {σ:Sg} {l:Led} (h:St w A σ l) : l.map (·.1)=A.all:=by
  refine oe2 h ?_;(try clear h);intro EM G z0;refine oa3 z0 ?_;(try clear z0);intro z29 hM hB;obtain rfl:=z29
  rw [List.map_append,hM.adr,flatMap_adr fun j hj=>(hB j hj).adr]
  rfl
theorem bufV_side {A:Ad} {j:Int} (hj:j∈sides) : bufV A j=.ref (A.b j):=by
  have:=sides2 hj
  rcases this with rfl | rfl <;> rfl
theorem bufV_none {A:Ad} : bufV A (-1)=.none:=rfl
namespace Z1
theorem c_BfOk_rehome:P_BfOk_rehome w A I home (k21 3) j size point mark (k12 3) l:=by
  intro h k
  obtain ⟨T,vn,vm,ct,st,tp,tb,tz,u1,g1,g2,g3,g4,g5,g6,g7,tr,ticks,gs,ge,its,n,o,kvs,e,⟨q0,q1,q2,q3,q4,q5,q6,q7⟩⟩:=h
  exact ⟨T,vn,vm,ct,st,tp,tb,tz,u1,g1,g2,g3,g4,g5,g6,g7,tr,ticks,gs,ge,its,n,o,kvs,e,⟨q0,q1,q2,q3,q4,q5,k _ q6,q7⟩⟩
end Z1
theorem h_27:∀ j,j<27→∀ u,Pf j u:=histS 26 h_26 (gen 26 h_26 (by with_unfolding_all exact Z1.c_BfOk_rehome))
theorem BfOk.rehome {w:World} {A:Ad} {I:List Int} {home home':Int→Int} {j size point:Int} {mark:Value} {lim:Nat} {l:Led} : P_BfOk_rehome w A I home home' j size point mark lim l:=by with_unfolding_all exact h_27 26 (Nat.lt_succ_self 26) (sk0 |>.set 1 0 w |>.set 25 0 A |>.set 24 1 I |>.set 21 0 home |>.set 21 3 home' |>.set 15 10 j |>.set 15 11 size |>.set 15 12 point |>.set 10 4 mark |>.set 12 3 lim |>.set 22 1 l)
theorem Marks.set {w:World} {A:Ad} {home pos:Int→Int} {EM:Int→Led} {i hm ps:Int} {l:Led} (h:Marks w A ids home pos EM) (k:MkOk w A i hm ps l) : Marks w A ids (upd home i hm) (upd pos i ps) (setB EM i l):=by
  intro a ha
  by_cases e:a=i
  · subst e
    rw [upd_same,upd_same,setB_same]
    exact k
  · rw [upd_other e,upd_other e,setB_other e]
    exact h a ha
theorem perm4 {a b c d:Led} : ((a++b)++(c++d)).Perm ((a++c)++(b++d)):=by
  rw [List.append_assoc,List.append_assoc]
  refine List.Perm.append_left a ?_
  rw [← List.append_assoc,← List.append_assoc]
  exact List.Perm.append_right d List.perm_append_comm
theorem perm3 {a b c:Led} : ((a++b)++c).Perm ((a++c)++b):=by
  rw [List.append_assoc,List.append_assoc]
  exact List.Perm.append_left a List.perm_append_comm
theorem repackM {EM G:Int→Led} {i:Int} {M':Led} (hi:i∈ids) : ∀ p∈ids.flatMap (setB EM i M')++sides.flatMap G,p∈M'++(blkO ids EM i++sides.flatMap G):=by
  intro p hp
  rw [← List.append_assoc]
  rcases List.mem_append.mp hp with h | h
  · have:=(blk_perm (E:=setB EM i M') ids_nodup hi).mem_iff.mp h
    rw [setB_same,blkO_set] at this
    exact List.mem_append.mpr (.inl this)
  · exact List.mem_append.mpr (.inr h)
theorem repack1 {EM G:Int→Led} {i j:Int} {M' G':Led} (hi:i∈ids) (hj:j∈sides) : ∀ p∈ids.flatMap (setB EM i M')++sides.flatMap (setB G j G'),p∈(M'++G')++(blkO ids EM i++blkO sides G j):=by
  intro p hp
  simp only [List.mem_append]
  rcases List.mem_append.mp hp with h | h
  · have:=(blk_perm (E:=setB EM i M') ids_nodup hi).mem_iff.mp h
    rw [setB_same,blkO_set] at this
    rcases List.mem_append.mp this with x | x
    · exact .inl (.inl x)
    · exact .inr (.inl x)
  · have:=(blk_perm (E:=setB G j G') sides_nodup hj).mem_iff.mp h
    rw [setB_same,blkO_set] at this
    rcases List.mem_append.mp this with x | x
    · exact .inl (.inr x)
    · exact .inr (.inr x)
theorem two_perm {G:Int→Led} {h j:Int} (hh:h∈sides) (hj:j∈sides) (hn:h≠j) : (sides.flatMap G).Perm (G h++G j):=by
  have h1:=sides_iff.mp hh
  have h2:=sides_iff.mp hj
  have:(h=0∧j=1)∨(h=1∧j=0):=by omega
  rcases this with ⟨rfl,rfl⟩ | ⟨rfl,rfl⟩
  · simp [sides]
  · simp only [sides,List.flatMap_cons,List.flatMap_nil,List.append_nil]
    exact List.perm_append_comm
theorem repack2 {EM G:Int→Led} {i h j:Int} {M' Gh Gj:Led} (hi:i∈ids) (hh:h∈sides) (hj:j∈sides) (hn:h≠j) : ∀ p∈ids.flatMap (setB EM i M')++sides.flatMap (setB (setB G h Gh) j Gj),p∈(M'++(Gh++Gj))++blkO ids EM i:=by
  intro p hp
  simp only [List.mem_append]
  rcases List.mem_append.mp hp with q | q
  · have:=(blk_perm (E:=setB EM i M') ids_nodup hi).mem_iff.mp q
    rw [setB_same,blkO_set] at this
    rcases List.mem_append.mp this with x | x
    · exact .inl (.inl x)
    · exact .inr x
  · have:=(two_perm (G:=setB (setB G h Gh) j Gj) hh hj hn).mem_iff.mp q
    rw [setB_same,setB_other hn,setB_same] at this
    exact .inl (.inr (List.mem_append.mp this))
section
variable {w:World} {A:Ad} {σ:Sg} {i j:Int} {v:Value}
end
section
namespace Z1
theorem c_st_set_none:P_st_set_none w A σ i v:=by
  intro ok hi hh
  intro l hS
  have ha:=hS.adr
  refine oe2 hS ?_;(try clear hS);intro EM G z0;refine oa3 z0 ?_;(try clear z0);intro z30 hM hB;obtain rfl:=z30
  obtain ⟨t1,t2,t3,t4,t5,t6,eM⟩:=hM i hi
  have pM:=blk_perm (E:=EM) ids_nodup hi
  have kM:∀ u,MkOk w A i (-1) 0 [(A.ma i,instObj 254 (A.md i)),(A.md i,mkD w t1 t2 t3 t4 (.int i t5) .none (.int 0 u))]:=fun u=>⟨_,_,_,_,_,_,rfl⟩
  rcases hh with e | e
  · rw [e,bufV_none] at eM
    rw [eM] at pM
    refine St.use ok ha ((pM.append_right _).trans (by rw [List.append_assoc])) (sm_none0 w ok hi) (by simp) ?_
    rintro r led' ⟨rfl,u,rfl⟩
    refine ⟨_,repackM hi,_,⟨rfl,rfl⟩,_,_,rfl,hM.set (kM u),fun j hj=>(hB j hj).rehome fun kvs hk=>?_⟩
    have hs:=sides_iff.mp hj
    exact rows_same (by omega) (by omega) hk
  · obtain ⟨h,hh,e'⟩ : ∃ h,h∈sides∧σ.home i=h:=⟨_,e,rfl⟩
    rw [e',bufV_side hh] at eM
    have pB:=blk_perm (E:=G) sides_nodup hh
    obtain ⟨T,vn,vm,ct,st,tp,tb,tz,u1,g1,g2,g3,g4,g5,g6,g7,tr,ticks,gs,ge,its,n,o,kvs,eG,hin⟩:=hB h hh
    have hv:=valueAt_of ((hin.rows i _).mpr ⟨hi,e',rfl⟩) (rows_nd hin.ro)
    rw [eM] at pM
    rw [eG] at pB
    refine St.use ok ha ((pM.append pB).trans perm4) (sm_noneB w (v:=v) ok hi hh hin.ro hin.len hv) (by simp) ?_
    · rintro r led' ⟨rfl,u,o'',rfl,hro⟩
      have hr:=rows_drop (i:=i) (j:=-1) (by have:=sides_iff.mp hh;omega) hin.rows
      refine ⟨_,repack1 hi hh,_,⟨rfl,rfl⟩,_,_,rfl,hM.set (kM u),fun j hj=>?_⟩
      by_cases ej:j=h
      · subst ej
        rw [setB_same]
        exact BfOk.of (T:=T) (kvs:=without kvs i) rfl rfl ⟨hin.g0,hin.g1,hin.g2,hin.sz,hin.lm,hro,hr,rows_len hro hr⟩
      · rw [setB_other ej]
        exact (hB j hj).rehome fun kvs hk=>rows_same (by have:=sides_iff.mp hj;omega) (by rw [e'];exact fun x=>ej x.symm) hk
end Z1
theorem h_28:∀ j,j<28→∀ u,Pf j u:=histS 27 h_27 (gen 27 h_27 (by with_unfolding_all exact Z1.c_st_set_none))
theorem st_set_none {w:World} {A:Ad} {σ:Sg} {i:Int} {v:Value} : P_st_set_none w A σ i v:=by with_unfolding_all exact h_28 27 (Nat.lt_succ_self 27) (sk0 |>.set 1 0 w |>.set 25 0 A |>.set 28 0 σ |>.set 15 7 i |>.set 10 21 v)
end
section
namespace Z1
theorem c_st_set:P_st_set w A σ i j place t9:=by
  intro ok hi hj hh hl
  intro l hS
  have ha:=hS.adr
  refine oe2 hS ?_;(try clear hS);intro EM G z0;refine oa3 z0 ?_;(try clear z0);intro z31 hM hB;obtain rfl:=z31
  obtain ⟨t1,t2,t3,t4,t5,t6,eM⟩:=hM i hi
  have pM:=blk_perm (E:=EM) ids_nodup hi
  have pJ:=blk_perm (E:=G) sides_nodup hj
  have hs:=sides_iff.mp hj
  have kM:∀ u,MkOk w A i j (min (max place 1) (σ.size j+1)) [(A.ma i,instObj 254 (A.md i)),(A.md i,mkD w t1 t2 t3 t4 (.int i t5) (.ref (A.b j)) (.int (min (max place 1) (σ.size j+1)) u))]:=fun u=>⟨_,_,_,_,_,_,by rw [bufV_side hj]⟩
  obtain ⟨T,vn,vm,ct,st,tp,tb,tz,u1,g1,g2,g3,g4,g5,g6,g7,tr,ticks,gs,ge,its,n,o,kvs,eG,hin⟩:=hB j hj
  have hr:=rows_put (i:=i) hi hin.rows
  by_cases e:σ.home i=-1∨σ.home i=j
  · rcases e with e | e
    · rw [e,bufV_none] at eM
      rw [eM] at pM
      rw [eG] at pJ
      refine St.use ok ha ((pM.append pJ).trans perm4) (sm_put0 w ok hi hj hin hl) (by simp) ?_
      rintro r led' ⟨rfl,u,o'',rfl,hro⟩
      refine ⟨_,repack1 hi hj,_,⟨rfl,rfl⟩,_,_,rfl,hM.set (kM u),fun j' hj'=>?_⟩
      by_cases ej:j'=j
      · subst ej
        rw [setB_same]
        exact BfOk.of (T:=T) (kvs:=stored kvs i (.ref (A.ma i))) rfl rfl ⟨hin.g0,hin.g1,hin.g2,hin.sz,hin.lm,hro,hr,rows_len hro hr⟩
      · rw [setB_other ej]
        have hs':=sides_iff.mp hj'
        exact (hB j' hj').rehome fun kvs hk=>rows_same (fun x=>ej x.symm) (by omega) hk
    · rw [e,bufV_side hj] at eM
      rw [eM] at pM
      rw [eG] at pJ
      refine St.use ok ha ((pM.append pJ).trans perm4) (sm_putS w ok hi hj hin hl) (by simp) ?_
      rintro r led' ⟨rfl,u,o'',rfl,hro⟩
      refine ⟨_,repack1 hi hj,_,⟨rfl,rfl⟩,_,_,rfl,hM.set (kM u),fun j' hj'=>?_⟩
      by_cases ej:j'=j
      · subst ej
        rw [setB_same]
        exact BfOk.of (T:=T) (kvs:=stored kvs i (.ref (A.ma i))) rfl rfl ⟨hin.g0,hin.g1,hin.g2,hin.sz,hin.lm,hro,hr,rows_len hro hr⟩
      · rw [setB_other ej]
        have hs':=sides_iff.mp hj'
        exact (hB j' hj').rehome fun kvs hk=>rows_same (fun x=>ej x.symm) (by omega) hk
  · obtain ⟨h,hh,e'⟩ : ∃ h,h∈sides∧σ.home i=h:=⟨_,hh.resolve_left fun x=>e (.inl x),rfl⟩
    have hne:h≠j:=fun x=>e (.inr (e'.trans x))
    rw [e',bufV_side hh] at eM
    obtain ⟨T',vn',vm',ct',st',tp',tb',tz',u1',g1',g2',g3',g4',g5',g6',g7',tr',ticks',gs',ge',its',n',o',kvs',eG',hin'⟩:=hB h hh
    have hv:=valueAt_of ((hin'.rows i _).mpr ⟨hi,e',rfl⟩) (rows_nd hin'.ro)
    rw [eM] at pM
    have p2:=two_perm (G:=G) hh hj hne
    rw [eG,eG'] at p2
    refine St.use ok ha ((pM.append p2).trans perm3) (sm_move w ok hi hj hh hne hin'.ro hin'.len hv hin hl) (by simp) ?_
    · rintro r led' ⟨rfl,u,o1,o'',rfl,hro1,hro⟩
      have hr1:=rows_drop (i:=i) (fun x=>hne x.symm) hin'.rows
      refine ⟨_,repack2 (G:=G) hi hh hj hne,_,⟨rfl,rfl⟩,_,_,rfl,hM.set (kM u),fun j' hj'=>?_⟩
      by_cases ej:j'=j
      · subst ej
        rw [setB_same]
        exact BfOk.of (T:=T) (kvs:=stored kvs i (.ref (A.ma i))) rfl rfl ⟨hin.g0,hin.g1,hin.g2,hin.sz,hin.lm,hro,hr,rows_len hro hr⟩
      · have ej2:j'=h:=by
          have h1:=sides_iff.mp hh
          have h2:=sides_iff.mp hj'
          omega
        subst ej2
        rw [setB_other ej,setB_same]
        exact BfOk.of (T:=T') (kvs:=without kvs' i) rfl rfl ⟨hin'.g0,hin'.g1,hin'.g2,hin'.sz,hin'.lm,hro1,hr1,rows_len hro1 hr1⟩
end Z1
theorem h_29:∀ j,j<29→∀ u,Pf j u:=histS 28 h_28 (gen 28 h_28 (by with_unfolding_all exact Z1.c_st_set))
theorem st_set {w:World} {A:Ad} {σ:Sg} {i j place:Int} {t9:Tok} : P_st_set w A σ i j place t9:=by with_unfolding_all exact h_29 28 (Nat.lt_succ_self 28) (sk0 |>.set 1 0 w |>.set 25 0 A |>.set 28 0 σ |>.set 15 7 i |>.set 15 10 j |>.set 15 14 place |>.set 14 10 t9)
end
end Mine
namespace Mine
section
variable {w:World} {A:Ad} {A0:Around} {E:Value→Shared→Prop} {Q:Value→Shared→Prop} {s:Shared} {h₀:Heap} {L:Addr} {m:Str→Option Value} {news S:Led} {σ:Sg} {i j:Int} {expr:Bool}
theorem sub_mk {EM G:Int→Led} {l:Led} (hl:∀ p∈ids.flatMap EM++sides.flatMap G,p∈l) (hi:i∈ids) : ∀ p∈EM i,p∈l:=fun p hp=>hl p (List.mem_append.mpr (.inl (List.mem_flatMap.mpr ⟨i,hi,hp⟩)))
theorem sub_bf {EM G:Int→Led} {l:Led} (hl:∀ p∈ids.flatMap EM++sides.flatMap G,p∈l) (hj:j∈sides) : ∀ p∈G j,p∈l:=fun p hp=>hl p (List.mem_append.mpr (.inr (List.mem_flatMap.mpr ⟨j,hj,hp⟩)))
theorem handed_int {n:Int} {t:Tok} : handedIn (.int n t)=true:=rfl
theorem bufV_handed {hm:Int} : handedIn (bufV A hm)=true:=by
  unfold bufV;split
  · rfl
  · split <;> rfl
theorem mark_handed:handedIn (σ.mark A j)=true:=by
  unfold Sg.mark;split
  · split <;> rfl
  · rfl
theorem st_mbuf (hS:St w A σ S) (F:Fr h₀ L s.heap m) (X:(Mine.hd.heap_1 w.params).In h₀) (N:News h₀ L s.heap news) (hl:∀ p∈S,p∈news) (hi:i∈ids) {v:Value} (e:bufV A (σ.home i)=v) (h:Q v { s with toks:=s.toks+1 }) :
    wpAny (model PySem.Challenge.rw_ok0063_01.prog w) A0 (getAttr (.ref (A.ma i)) (ofString "buffer") expr) Q E s:=by
  subst e
  refine oe2 hS ?_;(try clear hS);intro EM G z0;refine oa3 z0 ?_;(try clear z0);intro z32 hM hB;obtain rfl:=z32
  obtain ⟨t1,t2,t3,t4,t5,t6,eM⟩:=hM i hi
  have hs:=sub_mk hl hi
  rw [eM] at hs
  revert X;k_fill;intro X
  exact get_own F X (InstAt.of_news N (hs _ (.head _)) (hs _ (.tail _ (.head _)))) (by k_is) (by k_is) (by k_is) (by k_is) (by k_get) bufV_handed h
theorem st_mpos (hS:St w A σ S) (F:Fr h₀ L s.heap m) (X:(Mine.hd.heap_1 w.params).In h₀) (N:News h₀ L s.heap news) (hl:∀ p∈S,p∈news) (hi:i∈ids) (h:∀ t,Q (.int (σ.pos i) t) { s with toks:=s.toks+1 }) :
    wpAny (model PySem.Challenge.rw_ok0063_01.prog w) A0 (getAttr (.ref (A.ma i)) (ofString "position") expr) Q E s:=by
  refine oe2 hS ?_;(try clear hS);intro EM G z0;refine oa3 z0 ?_;(try clear z0);intro z33 hM hB;obtain rfl:=z33
  obtain ⟨t1,t2,t3,t4,t5,t6,eM⟩:=hM i hi
  have hs:=sub_mk hl hi
  rw [eM] at hs
  revert X;k_fill;intro X
  exact get_own F X (InstAt.of_news N (hs _ (.head _)) (hs _ (.tail _ (.head _)))) (by k_is) (by k_is) (by k_is) (by k_is) (by k_get) handed_int (h _)
theorem st_mnum (hS:St w A σ S) (F:Fr h₀ L s.heap m) (X:(Mine.hd.heap_1 w.params).In h₀) (N:News h₀ L s.heap news) (hl:∀ p∈S,p∈news) (hi:i∈ids) (h:∀ t,Q (.int i t) { s with toks:=s.toks+1 }) :
    wpAny (model PySem.Challenge.rw_ok0063_01.prog w) A0 (getAttr (.ref (A.ma i)) (ofString "number") expr) Q E s:=by
  refine oe2 hS ?_;(try clear hS);intro EM G z0;refine oa3 z0 ?_;(try clear z0);intro z34 hM hB;obtain rfl:=z34
  obtain ⟨t1,t2,t3,t4,t5,t6,eM⟩:=hM i hi
  have hs:=sub_mk hl hi
  rw [eM] at hs
  revert X;k_fill;intro X
  exact get_own F X (InstAt.of_news N (hs _ (.head _)) (hs _ (.tail _ (.head _)))) (by k_is) (by k_is) (by k_is) (by k_is) (by k_get) handed_int (h _)
end
section
namespace Z1
theorem c_st_bmark:∀ S v,P_st_bmark w A (k2 1) E Q s h₀ L m (k22 2) σ j (k29 0) S v:=by
  intro S v hS F X N hl hj e h
  subst e
  refine oe2 hS ?_;(try clear hS);intro EM G z0;refine oa3 z0 ?_;(try clear z0);intro z35 hM hB;obtain rfl:=z35
  obtain ⟨T,vn,vm,ct,st,tp,tb,tz,u1,g1,g2,g3,g4,g5,g6,g7,tr,ticks,gs,ge,its,n,o,kvs,eG,hin⟩:=hB j hj
  have hs:=sub_bf hl hj
  rw [eG] at hs
  revert X;k_fill;intro X
  exact get_own F X (InstAt.of_news N (hs _ (.head _)) (hs _ (.tail _ (.head _)))) (by k_is) (by k_is) (by k_is) (by k_is) (by k_get) mark_handed h
end Z1
theorem h_30:∀ j,j<30→∀ u,Pf j u:=histS 29 h_29 (gen 29 h_29 (by with_unfolding_all exact Z1.c_st_bmark))
theorem st_bmark {w:World} {A:Ad} {A0:Around} {E Q:Value→Shared→Prop} {s:Shared} {h₀:Heap} {L:Addr} {m:Str→Option Value} {news S:Led} {σ:Sg} {j:Int} {expr:Bool} {v:Value} : P_st_bmark w A A0 E Q s h₀ L m news σ j expr S v:=by with_unfolding_all exact h_30 29 (Nat.lt_succ_self 29) (sk0 |>.set 1 0 w |>.set 25 0 A |>.set 2 1 A0 |>.set 3 0 E |>.set 3 1 Q |>.set 4 0 s |>.set 5 0 h₀ |>.set 6 0 L |>.set 7 0 m |>.set 22 2 news |>.set 28 0 σ |>.set 15 10 j |>.set 29 0 expr) S v
end
section
variable {w:World} {A:Ad} {A0:Around} {E:Value→Shared→Prop} {Q:Value→Shared→Prop} {s:Shared} {h₀:Heap} {L:Addr} {m:Str→Option Value} {news S:Led} {σ:Sg} {i j:Int} {expr:Bool}
theorem st_bpoint (hS:St w A σ S) (F:Fr h₀ L s.heap m) (X:(Mine.hd.heap_1 w.params).In h₀) (N:News h₀ L s.heap news) (hl:∀ p∈S,p∈news) (hj:j∈sides) (h:∀ t,Q (.int (σ.point j) t) { s with toks:=s.toks+1 }) :
    wpAny (model PySem.Challenge.rw_ok0063_01.prog w) A0 (getAttr (.ref (A.b j)) (ofString "point") expr) Q E s:=by
  refine oe2 hS ?_;(try clear hS);intro EM G z0;refine oa3 z0 ?_;(try clear z0);intro z36 hM hB;obtain rfl:=z36
  obtain ⟨T,vn,vm,ct,st,tp,tb,tz,u1,g1,g2,g3,g4,g5,g6,g7,tr,ticks,gs,ge,its,n,o,kvs,eG,hin⟩:=hB j hj
  have hs:=sub_bf hl hj
  rw [eG] at hs
  revert X;k_fill;intro X
  exact get_own F X (InstAt.of_news N (hs _ (.head _)) (hs _ (.tail _ (.head _)))) (by k_is) (by k_is) (by k_is) (by k_is) (by k_get) handed_int (h _)
theorem st_bmarkers (hS:St w A σ S) (F:Fr h₀ L s.heap m) (X:(Mine.hd.heap_1 w.params).In h₀) (N:News h₀ L s.heap news) (hl:∀ p∈S,p∈news) (hj:j∈sides) (h:Q (.ref (A.k j)) { s with toks:=s.toks+1 }) :
    wpAny (model PySem.Challenge.rw_ok0063_01.prog w) A0 (getAttr (.ref (A.b j)) (ofString "markers") expr) Q E s:=by
  refine oe2 hS ?_;(try clear hS);intro EM G z0;refine oa3 z0 ?_;(try clear z0);intro z37 hM hB;obtain rfl:=z37
  obtain ⟨T,vn,vm,ct,st,tp,tb,tz,u1,g1,g2,g3,g4,g5,g6,g7,tr,ticks,gs,ge,its,n,o,kvs,eG,hin⟩:=hB j hj
  have hs:=sub_bf hl hj
  rw [eG] at hs
  revert X;k_fill;intro X
  exact get_own F X (InstAt.of_news N (hs _ (.head _)) (hs _ (.tail _ (.head _)))) (by k_is) (by k_is) (by k_is) (by k_is) (by k_get) rfl h
variable {pl:Sem Bool} {Q2:Value × List Value→Shared→Prop}
theorem st_msize (hS:St w A σ S) (F:Fr h₀ L s.heap m) (X:(Mine.hd.heap_1 w.params).In h₀) (N:News h₀ L s.heap news) (hl:∀ p∈S,p∈news) (hj:j∈sides) (h:Q2 (.ref 376,[.ref (A.b j)]) s) :
    wpAny (model PySem.Challenge.rw_ok0063_01.prog w) A0 (getMethod (.ref (A.b j)) (ofString "size") pl) Q2 E s:=by
  refine oe2 hS ?_;(try clear hS);intro EM G z0;refine oa3 z0 ?_;(try clear z0);intro z38 hM hB;obtain rfl:=z38
  obtain ⟨T,vn,vm,ct,st,tp,tb,tz,u1,g1,g2,g3,g4,g5,g6,g7,tr,ticks,gs,ge,its,n,o,kvs,eG,hin⟩:=hB j hj
  have hs:=sub_bf hl hj
  rw [eG] at hs
  revert X;k_fill;intro X
  exact method_inst F X (InstAt.of_news N (hs _ (.head _)) (hs _ (.tail _ (.head _)))) (by k_is) (by k_is) (by k_is) (by k_get) h
end
section
namespace Z1
theorem c_st_mgoto:∀ S,P_st_mgoto w A (k2 1) E s h₀ L m (k22 2) σ j (k30 0) (k31 0) S:=by
  intro S hS F X N hl hj h
  refine oe2 hS ?_;(try clear hS);intro EM G z0;refine oa3 z0 ?_;(try clear z0);intro z39 hM hB;obtain rfl:=z39
  obtain ⟨T,vn,vm,ct,st,tp,tb,tz,u1,g1,g2,g3,g4,g5,g6,g7,tr,ticks,gs,ge,its,n,o,kvs,eG,hin⟩:=hB j hj
  have hs:=sub_bf hl hj
  rw [eG] at hs
  revert X;k_fill;intro X
  exact method_inst F X (InstAt.of_news N (hs _ (.head _)) (hs _ (.tail _ (.head _)))) (by k_is) (by k_is) (by k_is) (by k_get) h
end Z1
theorem h_31:∀ j,j<31→∀ u,Pf j u:=histS 30 h_30 (gen 30 h_30 (by with_unfolding_all exact Z1.c_st_mgoto))
theorem st_mgoto {w:World} {A:Ad} {A0:Around} {E:Value→Shared→Prop} {s:Shared} {h₀:Heap} {L:Addr} {m:Str→Option Value} {news S:Led} {σ:Sg} {j:Int} {pl:Sem Bool} {Q2:Prod Value (List Value)→Shared→Prop} : P_st_mgoto w A A0 E s h₀ L m news σ j pl Q2 S:=by with_unfolding_all exact h_31 30 (Nat.lt_succ_self 30) (sk0 |>.set 1 0 w |>.set 25 0 A |>.set 2 1 A0 |>.set 3 0 E |>.set 4 0 s |>.set 5 0 h₀ |>.set 6 0 L |>.set 7 0 m |>.set 22 2 news |>.set 28 0 σ |>.set 15 10 j |>.set 30 0 pl |>.set 31 0 Q2) S
end
section
variable {w:World} {A:Ad} {A0:Around} {E:Value→Shared→Prop} {Q:Value→Shared→Prop} {s:Shared} {h₀:Heap} {L:Addr} {m:Str→Option Value} {news S:Led} {σ:Sg} {i j:Int} {expr:Bool}
variable {pl:Sem Bool} {Q2:Value × List Value→Shared→Prop}
theorem st_mnumbers (hS:St w A σ S) (F:Fr h₀ L s.heap m) (X:(Mine.hd.heap_1 w.params).In h₀) (N:News h₀ L s.heap news) (hl:∀ p∈S,p∈news) (hj:j∈sides) (h:Q2 (.ref 277,[.ref (A.k j)]) s) :
    wpAny (model PySem.Challenge.rw_ok0063_01.prog w) A0 (getMethod (.ref (A.k j)) (ofString "numbers") pl) Q2 E s:=by
  refine oe2 hS ?_;(try clear hS);intro EM G z0;refine oa3 z0 ?_;(try clear z0);intro z40 hM hB;obtain rfl:=z40
  obtain ⟨T,vn,vm,ct,st,tp,tb,tz,u1,g1,g2,g3,g4,g5,g6,g7,tr,ticks,gs,ge,its,n,o,kvs,eG,hin⟩:=hB j hj
  have hs:=sub_bf hl hj
  rw [eG] at hs
  revert X;k_fill;intro X
  exact method_inst F X (InstAt.of_news N (hs _ (.tail _ (.tail _ (.tail _ (.tail _ (.tail _ (.head _))))))) (hs _ (.tail _ (.tail _ (.tail _ (.tail _ (.tail _ (.tail _ (.head _))))))))) (by k_is) (by k_is) (by k_is) (by k_get) h
end
end Mine
namespace Mine
theorem perm_b {X:Led} {G:Int→Led} {j:Int} (hj:j∈sides) : (X++sides.flatMap G).Perm (G j++(X++blkO sides G j)):=by
  refine (List.Perm.append_left X (blk_perm sides_nodup hj)).trans ?_
  rw [← List.append_assoc,← List.append_assoc]
  exact List.Perm.append_right _ List.perm_append_comm
theorem repackB {X:Led} {G:Int→Led} {j:Int} {G':Led} (hj:j∈sides) : ∀ p∈X++sides.flatMap (setB G j G'),p∈G'++(X++blkO sides G j):=fun p hp=>by
  have:=(perm_b (X:=X) (G:=setB G j G') hj).mem_iff.mp hp
  rw [setB_same,blkO_set] at this
  exact this
section
variable {w:World} {A:Ad} {σ:Sg} {i j:Int}
end
section
namespace Z1
theorem c_st_size:P_st_size w A σ j:=by
  intro ok hj hl
  intro l hS
  have ha:=hS.adr
  have hS':=hS
  refine oe2 hS ?_;(try clear hS);intro EM G z0;refine oa3 z0 ?_;(try clear z0);intro z41 hM hB;obtain rfl:=z41
  have pJ:=perm_b (X:=ids.flatMap EM) (G:=G) hj
  have pJ':=pJ
  obtain ⟨T,vn,vm,ct,st,tp,tb,tz,u1,g1,g2,g3,g4,g5,g6,g7,tr,ticks,gs,ge,its,n,o,kvs,eG,hin⟩:=hB j hj
  rw [eG] at pJ
  refine St.use ok ha pJ (bf_size w hin hl) (fun _ h=>nomatch h) ?_
  rintro r led' ⟨hr,rfl⟩
  exact ⟨_,fun p hp=>pJ.mem_iff.mp hp,_,⟨hr,rfl⟩,hS'⟩
end Z1
theorem h_32:∀ j,j<32→∀ u,Pf j u:=histS 31 h_31 (gen 31 h_31 (by with_unfolding_all exact Z1.c_st_size))
theorem st_size {w:World} {A:Ad} {σ:Sg} {j:Int} : P_st_size w A σ j:=by with_unfolding_all exact h_32 31 (Nat.lt_succ_self 31) (sk0 |>.set 1 0 w |>.set 25 0 A |>.set 28 0 σ |>.set 15 10 j)
end
section
namespace Z1
theorem c_st_goto:P_st_goto w A σ j place t9:=by
  intro ok hj
  intro l hS
  have ha:=hS.adr
  refine oe2 hS ?_;(try clear hS);intro EM G z0;refine oa3 z0 ?_;(try clear z0);intro z42 hM hB;obtain rfl:=z42
  have pJ:=perm_b (X:=ids.flatMap EM) (G:=G) hj
  obtain ⟨T,vn,vm,ct,st,tp,tb,tz,u1,g1,g2,g3,g4,g5,g6,g7,tr,ticks,gs,ge,its,n,o,kvs,eG,hin⟩:=hB j hj
  rw [eG] at pJ
  refine St.use ok ha pJ (bf_goto w ok hj) (by simp) ?_
  rintro r led' ⟨tp',hr,rfl⟩
  refine ⟨_,repackB hj,_,⟨hr,rfl⟩,_,_,rfl,hM,fun j' hj'=>?_⟩
  by_cases e:j'=j
  · subst e
    rw [setB_same]
    exact BfOk.of (T:=T) (kvs:=kvs) upd_same rfl hin
  · rw [setB_other e]
    have:upd σ.point j (min (max place 1) (σ.size j+1)) j'=σ.point j':=upd_other e
    show BfOk w A ids σ.home j' (σ.size j') (upd σ.point j (min (max place 1) (σ.size j+1)) j') _ _ _
    rw [this]
    exact hB j' hj'
end Z1
theorem h_33:∀ j,j<33→∀ u,Pf j u:=histS 32 h_32 (gen 32 h_32 (by with_unfolding_all exact Z1.c_st_goto))
theorem st_goto {w:World} {A:Ad} {σ:Sg} {j place:Int} {t9:Tok} : P_st_goto w A σ j place t9:=by with_unfolding_all exact h_33 32 (Nat.lt_succ_self 32) (sk0 |>.set 1 0 w |>.set 25 0 A |>.set 28 0 σ |>.set 15 10 j |>.set 15 14 place |>.set 14 10 t9)
end
end Mine
namespace Mine
section
variable {w:World} {M:Model} {A:Ad} {A0:Around} {E:Value→Shared→Prop} {Q:Value→Shared→Prop} {s:Shared} {h₀:Heap} {L:Addr} {m:Str→Option Value} {news S:Led} {σ:Sg} {j h:Int} {b:Bool}
theorem Ad.Ok.bne {A:Ad} (ok:A.Ok) {h j:Int} (hh:h∈sides) (hj:j∈sides) (hn:j≠h) : A.b j≠A.b h:=by
  refine and8 (ok.blk j hj) ?_;intro c1 c2 c3 c4 c5 c6 c7 c8
  refine and8 (ok.blk h hh) ?_;intro d1 d2 d3 d4 d5 d6 d7 d8
  have:=ok.sep hh hj (fun x=>hn x.symm)
  have x : @Ne Nat (A.b j) (A.b h):=by omega
  exact x
end
section
namespace Z1
theorem c_st_bget:∀ S,P_st_bget w A s h₀ L (k22 2) σ j S:=by
  intro S hS N hl hj
  refine oe2 hS ?_;(try clear hS);intro EM G z0;refine oa3 z0 ?_;(try clear z0);intro z43 hM hB;obtain rfl:=z43
  obtain ⟨T,vn,vm,ct,st,tp,tb,tz,u1,g1,g2,g3,g4,g5,g6,g7,tr,ticks,gs,ge,its,n,o,kvs,eG,hin⟩:=hB j hj
  have hs:=sub_bf hl hj
  rw [eG] at hs
  exact (N _ (hs _ (.head _))).1
end Z1
theorem h_34:∀ j,j<34→∀ u,Pf j u:=histS 33 h_33 (gen 33 h_33 (by with_unfolding_all exact Z1.c_st_bget))
theorem st_bget {w:World} {A:Ad} {s:Shared} {h₀:Heap} {L:Addr} {news S:Led} {σ:Sg} {j:Int} : P_st_bget w A s h₀ L news σ j S:=by with_unfolding_all exact h_34 33 (Nat.lt_succ_self 33) (sk0 |>.set 1 0 w |>.set 25 0 A |>.set 4 0 s |>.set 5 0 h₀ |>.set 6 0 L |>.set 22 2 news |>.set 28 0 σ |>.set 15 10 j) S
end
section
variable {w:World} {M:Model} {A:Ad} {A0:Around} {E:Value→Shared→Prop} {Q:Value→Shared→Prop} {s:Shared} {h₀:Heap} {L:Addr} {m:Str→Option Value} {news S:Led} {σ:Sg} {j h:Int} {b:Bool}
theorem st_is (hS:St w A σ S) (ok:A.Ok) (N:News h₀ L s.heap news) (hl:∀ p∈S,p∈news) (hj:j∈sides) (hh:h∈sides) (e:decide (j=h)=b) (hq:Q (.bool b) s) :
    wpAny M A0 (compareOp .Is (.ref (A.b j)) (.ref (A.b h))) Q E s:=by
  subst e
  by_cases e:j=h
  · subst e
    rw [decide_eq_true rfl] at hq
    exact wpAny_is_ref_self hq
  · rw [decide_eq_false e] at hq
    exact kto_is (st_bget hS N hl hj) (st_bget hS N hl hh) (ok.bne hh hj e) (by intro z;cases z) hq
theorem st_isnot (hS:St w A σ S) (ok:A.Ok) (N:News h₀ L s.heap news) (hl:∀ p∈S,p∈news) (hj:j∈sides) (hh:h∈sides) (e:(!decide (j=h))=b) (hq:Q (.bool b) s) :
    wpAny M A0 (compareOp .IsNot (.ref (A.b j)) (.ref (A.b h))) Q E s:=by
  subst e
  by_cases e:j=h
  · subst e
    rw [decide_eq_true rfl] at hq
    exact wpAny_isNot_ref_self hq
  · rw [decide_eq_false e] at hq
    exact kto_isnot (st_bget hS N hl hj) (st_bget hS N hl hh) (ok.bne hh hj e) (by intro z;cases z) hq
end
end Mine
namespace Mine
theorem St.notin {w:World} {A:Ad} {σ:Sg} {l r:Led} {D:Addr} (hS:St w A σ l) (l1:∀ p∈r,p.1<D) (k:∀ p∈l,p∈r) : D ∉ A.all:=fun hm=>by
  rw [← hS.adr] at hm
  refine oe1 (List.mem_map.mp hm) ?_;intro q z0;refine oa2 z0 ?_;(try clear z0);intro hq z44;obtain rfl:=z44
  exact absurd (l1 q (k q hq)) (Nat.lt_irrefl _)
end Mine
namespace Mine
section
variable {w:World} {A:Ad} {σ:Sg} {i j k h:Int}
theorem st_place (hi:i∈ids) (hh:h∈sides) (e:σ.home i=h) : SpecS w A 62 [.ref (A.ma i)] 2 σ fun v σ'=>(∃ t,v=.int (σ.pos i) t)∧σ'=σ:=by
  intro l hS
  intro p loose mean mg mb dp un gd cn cs a ccd cl outer A₀ base h₀ L m rest s Q E B F X N hr Tp hk hd hu ret
  have eb:bufV A (σ.home i)=.ref (A.b h):=by rw [e,bufV_side hh]
  revert X;k_fill;intro X
  refine wpAny_call ?_
  k_dflt (refine' enterZ [ofString "marker"] (l':=[(ofString "marker",_)]) ?k1 ?k2 ?k3 ?k4 ?k5 ?kA ?kF ?kK ?k6 ?k7 ?k8 ?k9 ?kB ?kL ?_ ?c2 ?c3 ?c4 ?c5;k_extra "ez")
  k_steps
  all_goals (
    rename News h₀ L _ _=>N9
    skip
    refine' ret _ _ _ _ ⟨σ,⟨⟨_,rfl⟩,rfl⟩,hS⟩ ?F (News.sub N9 ?S)
    (case F=>assumption)
    (case S=>(intro q h;first | exact h | simp only [List.mem_cons,List.mem_append] at h ⊢;rcases h with h | h <;> simp only [h,true_or,or_true])))
theorem kw54_2:True:=by
  k_with "call ref" => ((fail_if_success have:=@e54_1);k_here;(with_reducible show wpAny _ _ (call (Value.ref 48) [_,Value.none,_]) _ _ _);k_dflt (refine' Spec.useC (ledx:=[]) (st_set_none ?y0 ?y1 ?y2 _ ?hS) ?B ?F ?X ?N ?C ?P ?hr ?T ?hk ?hd ?hu ?_;k_extra "us2";(case y0=>assumption);(case y1=>assumption);(case y2=>assumption);(case hr=>k_extra "h1");k_whole);intro v9 led9 h' tk' hP9;refine oe1 hP9 ?_;(try clear hP9);intro σ9 z0;refine oa2 z0 ?_;(try clear z0);intro z45 hS9;refine oa2 z45 ?_;(try clear z45);intro hv9 hσ9;subst hv9;intro F' N';rw [hσ9] at hS9;clear hσ9;(replace N':=reorder (a:=[]) N');k_extra "nn")
  k_with "call ref" => ((fail_if_success have:=@e54_1);k_here;(with_reducible show wpAny _ _ (call (Value.ref 48) [_,Value.ref _,Value.int _ _]) _ _ _);k_dflt (refine' Spec.useC (ledx:=[]) (st_set ?y0 ?y1 ?y2 ?y3 ?y4 _ ?hS) ?B ?F ?X ?N ?C ?P ?hr ?T ?hk ?hd ?hu ?_;k_extra "us2";(case y0=>assumption);(case y1=>assumption);(case y2=>assumption);(case y3=>assumption);(case y4=>assumption);(case hr=>k_extra "h1");k_whole);intro v9 led9 h' tk' hP9;refine oe1 hP9 ?_;(try clear hP9);intro σ9 z0;refine oa2 z0 ?_;(try clear z0);intro z46 hS9;refine oa2 z46 ?_;(try clear z46);intro hv9 hσ9;subst hv9;intro F' N';rw [hσ9] at hS9;clear hσ9;(replace N':=reorder (a:=[]) N');k_extra "nn")
  trivial
end
section
namespace Z1
theorem c_st_like:P_st_like w A σ i k:=by
  intro ok hi hk hh hh2 hl hz hp
  intro l hS
  intro p loose mean mg mb dp un gd cn cs a ccd cl outer A₀ base h₀ L m rest s Q E B F X N hr Tp hkf hd hu ret
  rcases hh2 with e | e
  · have eb:bufV A (σ.home k)=.none:=by rw [e];rfl
    revert X;k_fill;intro X
    refine wpAny_call ?_
    k_dflt (refine' enterZ [ofString "marker",ofString "other"] (l':=[(ofString "other",_),(ofString "marker",_)]) ?k1 ?k2 ?k3 ?k4 ?k5 ?kA ?kF ?kK ?k6 ?k7 ?k8 ?k9 ?kB ?kL ?_ ?c2 ?c3 ?c4 ?c5;k_extra "ez")
    k_steps
    all_goals (
      rename News h₀ L _ _=>N9
      rename St _ _ _ _=>hS9
      refine' ret _ _ _ _ ⟨_,⟨rfl,by rw [e,hz e]⟩,hS9⟩ ?F (News.sub N9 ?S)
      (case F=>assumption)
      (case S=>(intro q h;first | exact h | simp only [List.mem_cons,List.mem_append] at h ⊢;rcases h with h | h <;> simp only [h,true_or,or_true])))
  · obtain ⟨j,e'⟩ : ∃ j,σ.home k=j:=⟨_,rfl⟩
    rw [e'] at e hp
    have hp':=hp e
    have eb:bufV A (σ.home k)=.ref (A.b j):=by rw [e',bufV_side e]
    have ep:σ.pos k=min (max (σ.pos k) 1) (σ.size j+1):=by omega
    revert X;k_fill;intro X
    refine wpAny_call ?_
    k_dflt (refine' enterZ [ofString "marker",ofString "other"] (l':=[(ofString "other",_),(ofString "marker",_)]) ?k1 ?k2 ?k3 ?k4 ?k5 ?kA ?kF ?kK ?k6 ?k7 ?k8 ?k9 ?kB ?kL ?_ ?c2 ?c3 ?c4 ?c5;k_extra "ez")
    k_steps
    all_goals (
      rename News h₀ L _ _=>N9
      rename St _ _ _ _=>hS9
      refine' ret _ _ _ _ ⟨_,⟨rfl,by rw [e',← ep]⟩,hS9⟩ ?F (News.sub N9 ?S)
      (case F=>assumption)
      (case S=>(intro q h;first | exact h | simp only [List.mem_cons,List.mem_append] at h ⊢;rcases h with h | h <;> simp only [h,true_or,or_true])))
end Z1
theorem h_35:∀ j,j<35→∀ u,Pf j u:=histS 34 h_34 (gen 34 h_34 (by with_unfolding_all exact Z1.c_st_like))
theorem st_like {w:World} {A:Ad} {σ:Sg} {i k:Int} : P_st_like w A σ i k:=by with_unfolding_all exact h_35 34 (Nat.lt_succ_self 34) (sk0 |>.set 1 0 w |>.set 25 0 A |>.set 28 0 σ |>.set 15 7 i |>.set 15 4 k)
theorem e54_1:True:=trivial
end
end Mine
namespace Mine
section
variable {w:World} {A:Ad} {σ:Sg} {i j k h:Int}
theorem kw55_1:True:=by
  k_with "call ref" => ((fail_if_success have:=@e55_1);k_here;(with_reducible show wpAny _ _ (call (Value.ref 62) _) _ _ _);k_dflt (refine' Spec.useC (ledx:=[]) (st_place ?y0 ?y1 ?y2 _ ?hS) ?B ?F ?X ?N ?C ?P ?hr ?T ?hk ?hd ?hu ?_;k_extra "us2";(case y0=>assumption);(case y1=>assumption);(case y2=>assumption);(case hr=>k_extra "h1");k_whole);intro v9 led9 h' tk' hP9;refine oe1 hP9 ?_;(try clear hP9);intro σ9 z0;refine oa2 z0 ?_;(try clear z0);intro z47 hS9;refine oa2 z47 ?_;(try clear z47);intro z48 hσ9;refine oe1 z48 ?_;(try clear z48);intro t9 hv9;subst hv9;intro F' N';rw [hσ9] at hS9;clear hσ9;(replace N':=reorder (a:=[]) N');k_extra "nn")
  k_with "call ref" => ((fail_if_success have:=@e55_1);k_here;(with_reducible show wpAny _ _ (call (Value.ref 397) _) _ _ _);k_dflt (refine' Spec.useC (ledx:=[]) (st_goto ?y0 ?y1 _ ?hS) ?B ?F ?X ?N ?C ?P ?hr ?T ?hk ?hd ?hu ?_;k_extra "us2";(case y0=>assumption);(case y1=>first | assumption | decide);(case hr=>k_extra "h1");k_whole);intro v9 led9 h' tk' hP9;refine oe1 hP9 ?_;(try clear hP9);intro σ9 z0;refine oa2 z0 ?_;(try clear z0);intro z49 hS9;refine oa2 z49 ?_;(try clear z49);intro z50 hσ9;refine oe1 z50 ?_;(try clear z50);intro t9 hv9;subst hv9;intro F' N';rw [hσ9] at hS9;clear hσ9;(replace N':=reorder (a:=[]) N');k_extra "nn")
  trivial
end
section
namespace Z1
theorem c_st_gotom:P_st_gotom w A σ i j:=by
  intro ok hi hj e
  intro l hS
  intro p loose mean mg mb dp un gd cn cs a ccd cl outer A₀ base h₀ L m rest s Q E B F X N hr Tp hk hd hu ret
  have eb:bufV A (σ.home i)=.ref (A.b j):=by rw [e,bufV_side hj]
  revert X;k_fill;intro X
  refine wpAny_call ?_
  k_dflt (refine' enterZ [ofString "buffer",ofString "marker"] (l':=[(ofString "marker",_),(ofString "buffer",_)]) ?k1 ?k2 ?k3 ?k4 ?k5 ?kA ?kF ?kK ?k6 ?k7 ?k8 ?k9 ?kB ?kL ?_ ?c2 ?c3 ?c4 ?c5;k_extra "ez")
  k_steps
  all_goals (
    rename News h₀ L _ _=>N9
    rename St _ _ _ _=>hS9
    refine' ret _ _ _ _ ⟨_,⟨⟨_,rfl⟩,rfl⟩,hS9⟩ ?F (News.sub N9 ?S)
    (case F=>assumption)
    (case S=>(intro q h;first | exact h | simp only [List.mem_cons,List.mem_append] at h ⊢;rcases h with h | h <;> simp only [h,true_or,or_true])))
end Z1
theorem h_36:∀ j,j<36→∀ u,Pf j u:=histS 35 h_35 (gen 35 h_35 (by with_unfolding_all exact Z1.c_st_gotom))
theorem st_gotom {w:World} {A:Ad} {σ:Sg} {i j:Int} : P_st_gotom w A σ i j:=by with_unfolding_all exact h_36 35 (Nat.lt_succ_self 35) (sk0 |>.set 1 0 w |>.set 25 0 A |>.set 28 0 σ |>.set 15 7 i |>.set 15 10 j)
end
section
namespace Z1
theorem c_st_region:P_st_region SpecC w A σ (k15 19) l:=by
  intro hm e hh hS
  intro B F X N hr Tp hk hd hu ret
  have eb:bufV A (σ.home 3)=.ref (A.b (k15 19)):=by rw [e,bufV_side hh]
  have em:σ.mark A 0=.ref (A.ma 3):=by rw [Sg.mark,if_pos rfl,if_pos hm]
  revert X;k_fill;intro X
  refine wpAny_call ?_
  k_dflt (refine' enterZ [ofString "buffer"] (l':=[(ofString "buffer",_)]) ?k1 ?k2 ?k3 ?k4 ?k5 ?kA ?kF ?kK ?k6 ?k7 ?k8 ?k9 ?kB ?kL ?_ ?c2 ?c3 ?c4 ?c5;k_extra "ez")
  k_steps
  rename News h₀ L _ _=>N9
  rename ∀ p∈l++rest,_=>l9
  exact ret _ _ _ _ ⟨_,_,_,l,rfl,rfl,hS.notin l9 (fun p hp=>List.mem_append.mpr (.inl hp)),hS⟩ ‹_› N9
end Z1
theorem h_37:∀ j,j<37→∀ u,Pf j u:=histS 36 h_36 (gen 36 h_36 (by with_unfolding_all exact Z1.c_st_region))
theorem st_region {w:World} {A:Ad} {σ:Sg} {h:Int} (hm:σ.marked=true) (e:σ.home 3=h) (hh:h∈sides) (l:Led) (hS:St w A σ l) : Spec w 83 [.ref (A.b 0)] 2 l A.all fun v l'=>∃ D t t' l2,v=.ref D∧l'=(D,{ cls:=.type "tuple",data:=.seq #[.int (min (σ.pos 3) (σ.point 0)) t,.int (max (σ.pos 3) (σ.point 0)) t'] })::l2∧D ∉ A.all∧St w A σ l2:=fun p loose mean mg mb dp un gd cn cs a ccd cl outer A₀ base h₀ L m rest s Q E=>by with_unfolding_all exact h_37 36 (Nat.lt_succ_self 36) (sk0 |>.set 1 0 w |>.set 25 0 A |>.set 28 0 σ |>.set 15 19 h |>.set 22 1 l |>.ctx p loose mean mg mb dp un gd cn cs a ccd cl outer A₀ base h₀ L m rest s Q E) hm e hh hS
theorem kw55_2:True:=by
  k_with "call ref" => ((fail_if_success have:=@e55_1);k_here;(with_reducible show wpAny _ _ (call (Value.ref 83) _) _ _ _);k_dflt (refine' Spec.useC (ledx:=[]) (st_region ?y0 ?y1 ?y2 _ ?hS) ?B ?F ?X ?N ?C ?P ?hr ?T ?hk ?hd ?hu ?_;k_extra "us2";(case y0=>assumption);(case y1=>assumption);(case y2=>first | assumption | decide);(case hr=>k_extra "h1");k_whole);intro v9 led9 h' tk' hP9;refine oe4 hP9 ?_;(try clear hP9);intro D9 t9a t9b l9 z0;refine oa4 z0 ?_;(try clear z0);intro hv9 hl9 hD9 hS9;subst hv9;subst hl9;intro F' N';(replace N':=reorder (a:=[_]) N');k_extra "nn")
  k_with "call ref" => ((fail_if_success have:=@e55_1);k_here;(with_reducible show wpAny _ _ (call (Value.ref 48) [_,Value.ref _,Value.int _ _]) _ _ _);k_dflt (refine' Spec.useC (ledx:=[]) (st_set ?y0 ?y1 ?y2 ?y3 ?y4 _ ?hS) ?B ?F ?X ?N ?C ?P ?hr ?T ?hk ?hd ?hu ?_;k_extra "us2";(case y0=>assumption);(case y1=>first | assumption | decide);(case y2=>first | assumption | decide);(case y3=>assumption);(case y4=>assumption);(case hr=>k_extra "h1");k_whole);intro v9 led9 h' tk' hP9;refine oe1 hP9 ?_;(try clear hP9);intro σ9 z0;refine oa2 z0 ?_;(try clear z0);intro z51 hS9;refine oa2 z51 ?_;(try clear z51);intro hv9 hσ9;subst hv9;intro F' N';rw [hσ9] at hS9;clear hσ9;(replace N':=reorder (a:=[]) N');k_extra "nn")
  trivial
end
section
namespace Z1
theorem c_st_exch:P_st_exch w A σ:=by
  intro ok hm e hl
  intro l hS
  intro p loose mean mg mb dp un gd cn cs a ccd cl outer A₀ base h₀ L m rest s Q E B F X N hr Tp hk hd hu ret
  have hz:(0:Int)∈sides:=by decide
  have h3:(3:Int)∈ids:=by decide
  have hh:σ.home 3=-1∨σ.home 3∈sides:=.inr (by rw [e];decide)
  have eb:bufV A (σ.home 3)=.ref (A.b 0):=by rw [e,bufV_side hz]
  have em:σ.mark A 0=.ref (A.ma 3):=by rw [Sg.mark,if_pos rfl,if_pos hm]
  revert X;k_fill;intro X
  refine wpAny_call ?_
  k_dflt (refine' enterZ [ofString "buffer"] (l':=[(ofString "buffer",_)]) ?k1 ?k2 ?k3 ?k4 ?k5 ?kA ?kF ?kK ?k6 ?k7 ?k8 ?k9 ?kB ?kL ?_ ?c2 ?c3 ?c4 ?c5;k_extra "ez")
  k_steps
  all_goals (
    rename News h₀ L _ _=>N9
    rename St _ _ _ _=>hS9
    refine' ret _ _ _ _ ⟨_,⟨rfl,rfl⟩,hS9⟩ ?F (News.sub N9 ?S)
    (case F=>assumption)
    (case S=>(intro q h;first | exact h | simp only [List.mem_cons,List.mem_append] at h ⊢;rcases h with h | h <;> simp only [h,true_or,or_true])))
end Z1
theorem h_38:∀ j,j<38→∀ u,Pf j u:=histS 37 h_37 (gen 37 h_37 (by with_unfolding_all exact Z1.c_st_exch))
theorem st_exch {w:World} {A:Ad} {σ:Sg} : P_st_exch w A σ:=by with_unfolding_all exact h_38 37 (Nat.lt_succ_self 37) (sk0 |>.set 1 0 w |>.set 25 0 A |>.set 28 0 σ)
theorem e55_1:True:=trivial
end
end Mine
namespace Mine
namespace Z1
theorem c_BfOk_mono:P_BfOk_mono w A I home j size point mark (k12 3) (k12 4) l:=by
  intro h k
  obtain ⟨T,vn,vm,ct,st,tp,tb,tz,u1,g1,g2,g3,g4,g5,g6,g7,tr,ticks,gs,ge,its,n,o,kvs,e,⟨q0,q1,q2,q3,q4,q5,q6,q7⟩⟩:=h
  exact ⟨T,vn,vm,ct,st,tp,tb,tz,u1,g1,g2,g3,g4,g5,g6,g7,tr,ticks,gs,ge,its,n,o,kvs,e,⟨q0,q1,q2,q3,Nat.le_trans q4 k,q5,q6,q7⟩⟩
end Z1
theorem h_39:∀ j,j<39→∀ u,Pf j u:=histS 38 h_38 (gen 38 h_38 (by with_unfolding_all exact Z1.c_BfOk_mono))
theorem BfOk.mono {w:World} {A:Ad} {I:List Int} {home:Int→Int} {j size point:Int} {mark:Value} {lim lim':Nat} {l:Led} : P_BfOk_mono w A I home j size point mark lim lim' l:=by with_unfolding_all exact h_39 38 (Nat.lt_succ_self 38) (sk0 |>.set 1 0 w |>.set 25 0 A |>.set 24 1 I |>.set 21 0 home |>.set 15 10 j |>.set 15 11 size |>.set 15 12 point |>.set 10 4 mark |>.set 12 3 lim |>.set 12 4 lim' |>.set 22 1 l)
theorem perm_bm {EM G:Int→Led} {j:Int} (hj:j∈sides) : (ids.flatMap EM++sides.flatMap G).Perm ((G j++ids.flatMap EM)++blkO sides G j):=by
  rw [List.append_assoc]
  exact perm_b hj
theorem repackBM {G:Int→Led} {j:Int} {G':Led} {EM':Int→Led} (hj:j∈sides) : ∀ p∈ids.flatMap EM'++sides.flatMap (setB G j G'),p∈(G'++ids.flatMap EM')++blkO sides G j:=fun p hp=>by
  rw [List.append_assoc]
  exact repackB hj p hp
section
variable {w:World} {A:Ad} {σ:Sg} {i j s_ e_ place:Int} {t8 t9:Tok} {lc:Addr} {cs_:Array Value} {nc:Nat}
theorem away_bm (ok:A.Ok) (hj:j∈sides) : ∀ a∈A.bAd j,a ∉ ids.flatMap A.mAd:=fun a ha hm=>absurd (ok.apart a (List.mem_flatMap.mpr ⟨j,hj,ha⟩) a hm) (Nat.lt_irrefl _)
end
section
namespace Z1
theorem c_st_insert:∀ j l,P_st_insert w A σ place t9 (k6 7) (k9 2) nc j l:=by
  intro j l ok hj hl hlc hlm hp hp2 hcs hS
  have ha:=hS.adr
  refine oe2 hS ?_;(try clear hS);intro EM G z0;refine oa3 z0 ?_;(try clear z0);intro z52 hM hB;obtain rfl:=z52
  have pJ:=perm_bm (EM:=EM) (G:=G) hj
  obtain ⟨T,vn,vm,ct,st,tp,tb,tz,u1,g1,g2,g3,g4,g5,g6,g7,tr,ticks,gs,ge,its,n,o,kvs,eG,hin⟩:=hB j hj
  rw [eG] at pJ
  have hlm':(k6 7) ∉ ids.flatMap A.mAd:=fun h=>hlm (List.mem_append.mpr (.inl h))
  refine Spec.lift (more:=blkO sides G j) (ed_insert w (T:=T) (vn:=vn) (vm:=vm) (ct:=ct) (st:=st) (mark:=σ.mark A j) (tp:=tp) (tb:=tb) (tz:=tz) (u1:=u1) (g1:=g1) (g2:=g2) (g3:=g3) (g4:=g4) (g5:=g5) (g6:=g6) (g7:=g7) (tr:=tr) (ticks:=ticks) (n:=n) (point:=σ.point j) (nc:=nc) ok hj hin hl ok.ndm hM (away_bm ok hj) hlc hlm' hp hp2 hcs) ?_ (off_of_perm (ha ▸ ok.nda) pJ ?_) ?_ ?_
  · intro p h
    rcases List.mem_append.mp h with h | h
    · rcases List.mem_append.mp h with h | h
      · exact .tail _ (pJ.mem_iff.mpr (List.mem_append.mpr (.inl (List.mem_append.mpr (.inl h)))))
      · rcases List.mem_cons.mp h with h | h
        · subst h
          exact .head _
        · exact .tail _ (pJ.mem_iff.mpr (List.mem_append.mpr (.inl (List.mem_append.mpr (.inr h)))))
    · exact .tail _ (pJ.mem_iff.mpr (List.mem_append.mpr (.inr h)))
  · intro x hx
    rw [List.map_append,hM.adr]
    rcases List.mem_append.mp hx with h | h
    · refine List.mem_append.mpr (.inl ?_)
      simp only [List.mem_cons,List.not_mem_nil,or_false] at h
      rcases h with h | h | h <;> subst h <;> simp
    · exact List.mem_append.mpr (.inr h)
  · intro x hx
    rcases List.mem_append.mp hx with h | h
    · refine List.mem_append.mpr (.inr (List.mem_flatMap.mpr ⟨j,hj,?_⟩))
      simp only [List.mem_cons,List.not_mem_nil,or_false] at h
      rcases h with h | h | h <;> subst h <;> simp [Ad.bAd]
    · exact List.mem_append.mpr (.inl h)
  · rintro v led' ⟨rfl,l',EM',rfl,hb,hM'⟩
    refine ⟨_,?_,rfl,_,rfl,EM',setB G j l',rfl,?_,fun j' hj'=>?_⟩
    · intro p h
      rcases List.mem_cons.mp h with h | h
      · subst h
        simp
      · rcases List.mem_append.mp (repackBM (G:=G) hj p h) with h | h
        · rcases List.mem_append.mp h with h | h
          · exact List.mem_append.mpr (.inl (List.mem_append.mpr (.inl h)))
          · exact List.mem_append.mpr (.inl (List.mem_append.mpr (.inr (.tail _ h))))
        · exact List.mem_append.mpr (.inr h)
    · refine hM'.congr fun i=>?_
      show (if σ.home i=j then led1 _ _ _ _ else _)=_
      unfold led1
      split
      · rw [if_pos rfl]
        by_cases h2:place<σ.pos i
        · rw [if_pos h2,if_pos (by omega)]
          omega
        · rw [if_neg h2,if_neg (by omega)]
      · rfl
    · show BfOk w A ids σ.home j' (upd σ.size j _ j') (upd σ.point j _ j') (σ.mark A j') (σ.lim+18) _
      by_cases e:j'=j
      · subst e
        rw [setB_same,upd_same,upd_same]
        have e1:σ.size j'+↑(k9 2).size-(place-place)=σ.size j'+↑(k9 2).size:=by omega
        have e2:led1 (σ.point j') place place ↑(k9 2).size=if σ.point j' > place then σ.point j'+↑(k9 2).size else σ.point j':=by
          unfold led1
          rw [if_pos rfl]
        rw [e1,e2]
        exact hb
      · rw [setB_other e,upd_other e,upd_other e]
        exact (hB j' hj').mono (by omega)
end Z1
theorem h_40:∀ j,j<40→∀ u,Pf j u:=histS 39 h_39 (gen 39 h_39 (by with_unfolding_all exact Z1.c_st_insert))
theorem st_insert {w:World} {A:Ad} {σ:Sg} {j place:Int} {t9:Tok} {lc:Addr} {cs_:Array Value} {nc:Nat} {l:Led} : P_st_insert w A σ place t9 lc cs_ nc j l:=by with_unfolding_all exact h_40 39 (Nat.lt_succ_self 39) (sk0 |>.set 1 0 w |>.set 25 0 A |>.set 28 0 σ |>.set 15 14 place |>.set 14 10 t9 |>.set 6 7 lc |>.set 9 2 cs_ |>.set 12 2 nc) j l
end
section
namespace Z1
theorem c_st_delete:∀ j l,P_st_delete w A σ s_ e_ (k14 9) t9 j l:=by
  intro j l ok hj hl hp hlt hp2 hS
  have ha:=hS.adr
  refine oe2 hS ?_;(try clear hS);intro EM G z0;refine oa3 z0 ?_;(try clear z0);intro z53 hM hB;obtain rfl:=z53
  have pJ:=perm_bm (EM:=EM) (G:=G) hj
  obtain ⟨T,vn,vm,ct,st,tp,tb,tz,u1,g1,g2,g3,g4,g5,g6,g7,tr,ticks,gs,ge,its,n,o,kvs,eG,hin⟩:=hB j hj
  rw [eG] at pJ
  refine St.use ok ha pJ (ed_delete w ok hj hin hl ok.ndm hM (away_bm ok hj) hp hlt hp2) ?_ ?_
  · intro x hx
    rw [List.map_append,hM.adr]
    rcases List.mem_append.mp hx with h | h
    · refine List.mem_append.mpr (.inl ?_)
      simp only [List.mem_cons,List.not_mem_nil,or_false] at h
      rcases h with h | h | h <;> subst h <;> simp
    · exact List.mem_append.mpr (.inr h)
  · rintro v led' ⟨hv,l',EM',rfl,hb,hM'⟩
    refine ⟨_,repackBM (G:=G) hj,_,⟨hv,rfl⟩,EM',setB G j l',rfl,?_,fun j' hj'=>?_⟩
    · refine hM'.congr fun i=>?_
      show (if σ.home i=j then led1 _ _ _ _ else _)=_
      unfold led1
      by_cases h1:σ.home i=j
      · simp only [if_pos h1]
        rw [if_neg (by omega)]
        by_cases h2:e_<σ.pos i
        · rw [if_pos h2,if_pos (by omega)]
        · rw [if_neg h2]
          split <;> split <;> omega
      · simp only [if_neg h1]
    · show BfOk w A ids σ.home j' (upd σ.size j _ j') (upd σ.point j _ j') (σ.mark A j') (σ.lim+18) _
      by_cases e:j'=j
      · subst e
        rw [setB_same,upd_same,upd_same]
        have e1:σ.size j'+0-(e_-s_)=σ.size j'-(e_-s_):=by omega
        have e2:led1 (σ.point j') s_ e_ 0=if σ.point j' > s_ then max s_ (σ.point j'-(e_-s_)) else σ.point j':=by
          unfold led1
          rw [if_neg (by omega)]
          split <;> split <;> omega
        rw [e1,e2]
        exact hb.mono (by omega)
      · rw [setB_other e,upd_other e,upd_other e]
        exact (hB j' hj').mono (by omega)
end Z1
theorem h_41:∀ j,j<41→∀ u,Pf j u:=histS 40 h_40 (gen 40 h_40 (by with_unfolding_all exact Z1.c_st_delete))
theorem st_delete {w:World} {A:Ad} {σ:Sg} {j s_ e_:Int} {t8 t9:Tok} (ok:A.Ok) (hj:j∈sides) (hl:σ.lim≤800) (hp:1≤s_) (hlt:s_<e_) (hp2:e_≤σ.size j+1) (l:Led) (hS:St w A σ l) : Spec w 508 [.ref (A.b j),.int e_ t8,.int s_ t9] 8 l A.all fun v l'=>∃ σ',((∃ r,v=.ref r)∧σ'=σ.edit j s_ e_ 0)∧St w A σ' l':=by with_unfolding_all exact h_41 40 (Nat.lt_succ_self 40) (sk0 |>.set 1 0 w |>.set 25 0 A |>.set 28 0 σ |>.set 15 17 s_ |>.set 15 18 e_ |>.set 14 9 t8 |>.set 14 10 t9) j l ok hj hl hp hlt hp2 hS
end
end Mine
namespace Mine
section
variable {prog:Program} {w:World} {A:Around} {E:Value→Shared→Prop} {h:Heap} {g:Array GenState} {d:Drawn} {t:Nat} {os:OsState} {x dx:Addr} {o:Obj}
  {nm q:Str} {C N:Addr} {bs bm:List Value} {sn:List Str} {sub:List Value} {ab:Bool} {col:Option Bool} {dd:Option Addr} {k0 k1 k2 k3 k5:Option Value} {B newId:String} {mN mA:Str→Option Value} {name:Str} {v:Value}
end
section
namespace Z2
theorem c_xc_entry:∀ x C Q,P_xc_entry prog w A E (k5 1) (k32 0) (k33 0) (k12 5) (k34 0) (k6 5) (k16 0) (k19 2) (k19 3) (k6 12) (k23 1) (k23 2) (k35 0) (k23 3) (k29 1) (k36 0) (k37 0) (k38 0) (k38 1) (k38 2) (k38 3) (k38 4) (k39 0) (k39 1) (k7 2) (k7 3) (k19 4) (k10 21) (k14 25) x C Q:=by
  intro x C Q hm hC hn hna hB hx hc hnc hdx hns hv hq
  unfold Builtin.«object.__getattribute__»
  repeat (first | (with_reducible refine wpAny_loadPart_at hx ?_;rw [hc]) | (with_reducible refine wpAny_typeLookup_exc hC hn hm hB ?_;rw [hna]) | wp_step)
  split
  · rename_i c hcd
    exact absurd hcd (hnc c)
  unfold instanceDict
  repeat (first | (with_reducible refine wpAny_loadPart_at hx ?_;rw [hc]) | with_reducible refine wpAny_loadPart_at hC ?_ | wp_step)
  rw [hdx]
  repeat (first | (with_reducible refine wpAny_nsGet hns ?_;rw [hv]) | wp_step)
  exact hq
end Z2
theorem h_42:∀ j,j<42→∀ u,Pf j u:=histS 41 h_41 (gen 41 h_41 (by with_unfolding_all exact Z2.c_xc_entry))
theorem xc_entry {prog:Program} {w:World} {A:Around} {E:Value→Shared→Prop} {h:Heap} {g:Array GenState} {d:Drawn} {t:Nat} {os:OsState} {x dx:Addr} {o:Obj} {nm q:Str} {C N:Addr} {bs bm:List Value} {sn:List Str} {sub:List Value} {ab:Bool} {col:Option Bool} {dd:Option Addr} {k0 k1 k2 k3 k5:Option Value} {B newId:String} {mN mA:Str→Option Value} {name:Str} {v:Value} {tk:Tok} {Q:Fin→Shared→Prop} : P_xc_entry prog w A E h g d t os dx o nm q N bs bm sn sub ab col dd k0 k1 k2 k3 k5 B newId mN mA name v tk x C Q:=by with_unfolding_all exact h_42 41 (Nat.lt_succ_self 41) (sk0 |>.set 0 0 prog |>.set 1 0 w |>.set 2 0 A |>.set 3 0 E |>.set 5 1 h |>.set 32 0 g |>.set 33 0 d |>.set 12 5 t |>.set 34 0 os |>.set 6 5 dx |>.set 16 0 o |>.set 19 2 nm |>.set 19 3 q |>.set 6 12 N |>.set 23 1 bs |>.set 23 2 bm |>.set 35 0 sn |>.set 23 3 sub |>.set 29 1 ab |>.set 36 0 col |>.set 37 0 dd |>.set 38 0 k0 |>.set 38 1 k1 |>.set 38 2 k2 |>.set 38 3 k3 |>.set 38 4 k5 |>.set 39 0 B |>.set 39 1 newId |>.set 7 2 mN |>.set 7 3 mA |>.set 19 4 name |>.set 10 21 v |>.set 14 25 tk) x C Q
end
section
variable {prog:Program} {w:World} {A:Around} {E:Value→Shared→Prop} {h:Heap} {g:Array GenState} {d:Drawn} {t:Nat} {os:OsState} {x dx:Addr} {o:Obj}
  {nm q:Str} {C N:Addr} {bs bm:List Value} {sn:List Str} {sub:List Value} {ab:Bool} {col:Option Bool} {dd:Option Addr} {k0 k1 k2 k3 k5:Option Value} {B newId:String} {mN mA:Str→Option Value} {name:Str} {v:Value}
theorem xc_check {M:Model} {nameV:Value} {Q:Unit→Shared→Prop} (hb:bm.contains (.type "BaseException")=true) (hC:h.get? C=some (excClassObj nm q C N bs bm true sn sub ab col dd k0 k1 k2 k3 k5 newId))
    (hx:h.get? x=some o) (hc:o.cls=.ref C) (hq:Q () ⟨h,g,d,t,os⟩) : wpAny M A (checkBuiltinCall "BaseException.__getattribute__" ⟨[.ref x,nameV],[]⟩) Q E ⟨h,g,d,t,os⟩:=by
  have hk:builtinKind "BaseException.__getattribute__" = some .slot:=by decide +kernel
  have hsplit:splitId "BaseException.__getattribute__" = some ("BaseException","__getattribute__"):=by decide +kernel
  have hcB:(Value.ref C::bm).contains (.type "BaseException")=true:=by rw [List.contains_cons,hb,Bool.or_true]
  have ha:=PySem.F.args_bexc_ga (.ref x) nameV
  simp only [checkBuiltinCall,hk,hsplit]
  refine wpAny_bind ?_
  unfold isInstance
  repeat (first | (with_reducible refine wpAny_loadPart_at hx ?_;rw [hc]) | (with_reducible refine wpAny_isSubtype_exc hC ?_;rw [hcB]) | wp_step)
  exact hq
theorem xc_get {expr:Bool} {Q:Value→Shared→Prop} (FB:ExcAttrBase B bm)
    (hC:h.get? C=some (excClassObj nm q C N bs bm true sn sub ab col dd k0 k1 k2 k3 k5 newId)) (hn:h.Ns N mN) (hng:mN "__getattribute__" = none) (hnh:mN "__getattr__" = none) (hna:mN name=none) (hB:typeLookup (.type B) name=pure none)
    (hx:h.get? x=some o) (hc:o.cls=.ref C) (hnc:∀ c,o.data≠.cls c) (hdx:o.dict=some dx) (hns:h.Ns dx mA) (hv:mA name=some v) (hh:handedOut v=pure v) (hq:Q v ⟨h,g,d,t+1,os⟩) :
    wpAny (model prog w) A (getAttr (.ref x) name expr) Q E ⟨h,g,d,t,os⟩:=by
  have f3:=FB.ga.bind (.ref x)
  have hx0:(expr && onTheHeap (Value.builtin "BaseException.__getattribute__"))=false:=by cases expr <;> rfl
  have hx2:(Value.builtin "BaseException.__getattribute__" == Value.builtin "object.__getattribute__")=false:=by decide +kernel
  have hx1:(onTheHeap (Value.ref C) && Value.builtin "BaseException.__getattribute__" == Value.builtin "object.__getattribute__")=false:=by rw [hx2];rfl
  unfold getAttr
  repeat (any_goals (first | assumption | (with_reducible refine wpAny_loadPart_at hx ?_;rw [hc]) | (with_reducible refine wpAny_typeLookup_exc hC hn FB.mro FB.ga.lookup ?_;rw [hng]) | (with_reducible refine wpAny_typeLookup_exc hC hn FB.mro FB.noGetattr ?_;rw [hnh]) | wp_step))
  refine codeAny_call_builtin FB.ga.plain PySem.F.entry_bexc_ga (xc_check FB.hasBase hC hx hc (xc_entry FB.mro hC hn hna hB hx hc hnc hdx hns hv ?_))
  repeat (any_goals (first | assumption | wp_step))
end
end Mine
namespace Mine
section
open Builtin Builtin.ObjectAttr
variable {prog:Program} {w:World} {A:Around} {E:Value→Shared→Prop} {h:Heap} {g:Array GenState} {d:Drawn} {t:Nat} {os:OsState} {x dx:Addr} {o:Obj}
  {nm q:Str} {C N:Addr} {bs bm:List Value} {sn:List Str} {sub:List Value} {ab:Bool} {col:Option Bool} {dd:Option Addr} {k0 k1 k2 k3 k5:Option Value} {B newId sa owner:String} {mN mA:Str→Option Value} {name:Str} {v:Value}
theorem xc_first {Q:Unit→Shared→Prop} (SF:StoreFacts B bm sa owner)
    (hC:h.get? C=some (excClassObj nm q C N bs bm true sn sub ab col dd k0 k1 k2 k3 k5 newId)) (hn:h.Ns N mN) (hns:mN "__setattr__" = none) (hna:mN name=none) (hB:typeLookup (.type B) name=pure none)
    (hx:h.get? x=some o) (hc:o.cls=.ref C) (hnc:∀ c,o.data≠.cls c) (hdn:o.dict=none)
    (hq:∀ h' tk',h'.get? x=some { o with dict:=some h.objs.size }→h'.Ns1 h.objs.size (fun y=>if y=name then some v else none)→(∀ b o,b≠x→h.get? b=some o→h'.get? b=some o)→Q () ⟨h',g,d,tk',os⟩) :
    wpAny (model prog w) A (setAttr (.ref x) name v) Q E ⟨h,g,d,t,os⟩:=by
  have f3:=SF.slot.bind (.ref x)
  have hpass:=SF.passes (.ref x)
  unfold setAttr callSpecial? specialOf
  repeat (any_goals (first | assumption | (with_reducible refine wpAny_loadPart_at hx ?_;rw [hc]) | (with_reducible refine wpAny_typeLookup_exc hC hn SF.mro SF.slot.lookup ?_;rw [hns]) | wp_step))
  refine codeAny_call_builtin SF.slot.plain SF.entry (wpAny_check_sa SF hC hx hc ?_)
  unfold Builtin.«object.__setattr__»
  repeat (first | rw [refuse_eq] | (rw [refuseLoop_ref,hpass]) | (with_reducible refine wpAny_loadPart_at hx ?_;rw [hc]) | with_reducible refine wpAny_mroOf_exc hC ?_ | (with_reducible refine wpAny_typeLookup_exc hC hn SF.mro hB ?_;rw [hna]) | wp_step)
  rw [hdn,if_neg (by simp [typeHasDict])]
  split
  · rename_i z
    cases z
  split
  · rename_i c z
    exact absurd z (hnc c)
  have hlt:=Heap.lt_size hx
  refine wpAny_bind (wpAny_alloc' (wpAny_bind (wpAny_update' (Heap.get?_push_of_some _ hx) (wpAny_pure ?_))))
  have hD:((h.push { cls:=.type "dict",data:=.dict #[] }).update x fun o=>{ cls:=o.cls,dict:=some h.objs.size,data:=o.data,slots:=o.slots }).get? h.objs.size=some { cls:=.type "dict",data:=.dict #[] } :=
    (Heap.get?_update_ne _ _ _ _ (Nat.ne_of_gt hlt)).trans (Heap.get?_push_at rfl rfl)
  show wpAny _ _ (storeInDict h.objs.size _ name v) _ _ _
  unfold storeInDict newKeyGuard
  refine wpAny_bind (wpAny_pure (wpAny_bind (wpAny_nsSet1 (Heap.Ns1.of_empty ⟨_,#[],_,hD,rfl,fun e he=>absurd he (by simp),fun _=>rfl⟩) fun h' hn' hs=>?_)))
  refine oe3 (hn'.count (Within.cons name v Within.nil)) ?_;intro oD esD epD z0;refine oa3 z0 ?_;(try clear z0);intro hoD hdD hcD
  refine wpAny_bind (wpAny_lookBehind hoD (by rw [hdD];exact pastItsLine_dict (Nat.le_trans hcD (by rw [List.length_cons,List.length_nil,sizeLine_eq];omega))) ?_)
  wp_walk
  refine hq h' _ ((hs.2 x (Nat.ne_of_lt hlt)).trans (Heap.get?_update_self _ (Heap.get?_push_of_some _ hx) ?_)) hn' fun b ob hb he=>(hs.2 b (Nat.ne_of_lt (Heap.lt_size he))).trans ((Heap.get?_update_ne _ _ _ _ hb).trans (Heap.get?_push_of_some _ he))
  have hfr:=(Heap.get?_some_iff.mp hx).2
  obtain ⟨oc,od,odt,osl⟩:=o
  cases odt <;> first | rfl | exact hfr
end
end Mine
namespace Mine
theorem dict_mapFields (o:Obj) (f) : (o.mapFields f).dict=o.dict:=by
  obtain ⟨c,d,dt,sl⟩:=o
  cases dt <;> rfl
section
variable {M:Model} {A:Around} {E:Value→Shared→Prop} {s:Shared} {base:Heap} {env:Env} {outer l:List Env} {L e d:Addr} {oe:Obj} {vs:Array Value} {head cls fl:Value} {hadNext:Bool} {Q:Unit→Shared→Prop}
theorem fly_entry (hfr:A.frames=some (env::outer)) (hl:s.heap.FunFrames base (env::outer)) (hf:env.frame=some L) (he:s.heap.get? e=some oe) (hkb:base.StaysIn s.heap) (hen:base.get? e=none)
    (hd:oe.data=.fields vs) (hsz:1<vs.size) (hdd:oe.dict=some d) (h:∀ h',Fly base (env::outer) e oe.cls d (rawInt L) h'→s.heap.UpToSlots h'→Q () { s with heap:=h' }) :
    wpAny M A (do let a ← frameOf env;let pl ← entryPlaceOf L hadNext;let b ← EntryCells.newEntry head a .none (rawInt L) .none pl;setField (.ref e) 1 b) Q E s:=by
  have hene:e ∉ (env::outer).filterMap (·.frame):=fun hm=>by
    refine oa2 (hl.mem hm) ?_;intro _ z0;refine oe1 z0 ?_;(try clear z0);intro o z1;refine oa2 z1 ?_;(try clear z1);intro ho hnf
    rw [he] at ho
    cases ho
    exact hnf vs hd
  refine wpAny_bind (wpAny_frameOf_fun hfr hl hf fun h₁ hs₁=>wpAny_bind (wpAny_entryPlaceOf fun pl hpl=>?_))
  unfold EntryCells.newEntry newFields
  refine wpAny_bind (wpAny_newObj_type ?_ (hpl.sizeOk5 _ _ _ _ _))
  have he₁:h₁.get? e=some oe:=(hs₁.2.1 e hene).trans he
  have kb₁:base.StaysIn h₁:=fun b o hbo=>(hs₁.2.1 b fun hm=>by rw [(hl.mem hm).1] at hbo;cases hbo).trans (hkb b o hbo)
  generalize hT:({ cls:=.type "traceback",dict:=none,data:=.fields ([head,.ref L,.none,rawInt L,.none]++(if pl.isEmpty then List.replicate 6 Value.none else pl)).toArray } : Obj)=oT
  have he₂:=Heap.get?_push_of_some (h:=h₁) oT he₁
  have hTd:oT.data=.fields ([head,.ref L,.none,rawInt L,.none]++(if pl.isEmpty then List.replicate 6 Value.none else pl)).toArray:=by rw [← hT]
  have hTf:oT.isFreed=false:=by rw [← hT];rfl
  refine wpAny_setField he₂ hd hsz (h _ ?_ ?_)
  all_goals
    have keep:∀ b o,b≠e→h₁.get? b=some o→((h₁.push oT).update e (Obj.mapFields (·.setIfInBounds 1 (Value.ref h₁.objs.size)))).get? b=some o:=fun b o hbe hb=>by
      rw [Heap.get?_update_other _ _ (Ne.symm hbe)]
      exact Heap.get?_push_of_some _ hb
    have noRecord:∀ b o,s.heap.get? b=some o→(∀ vs,o.data≠.fields vs)→b≠e:=fun b o hb hnf q=>by
      rw [q,he] at hb
      cases hb
      exact hnf vs hd
  · have hTe:h₁.objs.size≠e:=Nat.ne_of_gt (Heap.lt_size he₁)
    have hd₃:=Obj.data_mapFields hd (·.setIfInBounds 1 (Value.ref h₁.objs.size))
    have he₃:=Heap.get?_update_self (Obj.mapFields (·.setIfInBounds 1 (Value.ref h₁.objs.size))) he₂ (Obj.isFreed_of_fields hd₃)
    have hT₃:=(Heap.get?_update_other (h₁.push oT) (Obj.mapFields (·.setIfInBounds 1 (Value.ref h₁.objs.size))) (Ne.symm hTe)).trans (Heap.get?_push_size h₁ hTf)
    refine ⟨fun b o hbo=>keep b o (fun q=>by rw [q,hen] at hbo;cases hbo) (kb₁ b o hbo),hen,hl.of_keeps fun b o hb hnf=>?_,
      _,_,h₁.objs.size,_,_,he₃,⟨Obj.cls_mapFields _ _,(dict_mapFields _ _).trans hdd⟩,hd₃,by simp [hsz],kb₁.fresh,hTe,hT₃,hTd,by first | (simp;done) | (rcases hpl with rfl | ⟨_,_,_,_,_,_,_,rfl⟩ <;> simp)⟩
    refine oe1 (hs₁.2.2 b o hb) ?_;intro sl hs
    exact ⟨_,keep b _ (noRecord b o hb hnf) hs,rfl⟩
  · intro b o hb hnf
    refine oe1 (hs₁.2.2 b o hb) ?_;intro sl hs
    exact ⟨sl,keep b _ (noRecord b o hb hnf) hs⟩
theorem fly_land (x:Fly base l e cls d fl s.heap) (h:∀ h',Fly base l e cls d .none h'→s.heap.UpToSlots h'→Q () { s with heap:=h' }) : wpAny M A (setFlight (.ref e) none) Q E s:=by
  refine oa4 x ?_;(try clear x);intro hkb hen hl z0;refine oe5 z0 ?_;(try clear z0);intro oe vs T oT ts z1;refine oa8 z1 ?_;(try clear z1);intro he hcd hd h1 hnT hTe hT z0;refine oa2 z0 ?_;(try clear z0);intro hdT h3
  have hsz3:3<ts.size:=(Array.getElem?_eq_some_iff.mp h3).1
  have other:∀ b,b≠T→(s.heap.update T (Obj.mapFields (·.setIfInBounds 3 ((none:Option Addr).elim Value.none fun f=>rawInt f)))).get? b=s.heap.get? b:=fun b hb=>Heap.get?_update_other _ _ (Ne.symm hb)
  have noRecord:∀ b o,s.heap.get? b=some o→(∀ vs,o.data≠.fields vs)→b≠T:=fun b o hb hnf q=>by
    rw [q,hT] at hb
    cases hb
    exact hnf ts hdT
  unfold setFlight
  refine wpAny_bind (wpAny_field he hd h1 ?_)
  rw [if_pos (show (Value.ref T != Value.none)=true from by simp)]
  refine wpAny_setField hT hdT hsz3 (h _ ⟨fun b o hbo=>(other b fun q=>by rw [q,hnT] at hbo;cases hbo).trans (hkb b o hbo),hen,hl.of_keeps fun b o hb hnf=>⟨o,(other b (noRecord b o hb hnf)).trans hb,rfl⟩,
    oe,vs,T,_,_,(other e (Ne.symm hTe)).trans he,hcd,hd,h1,hnT,hTe,Heap.get?_update_self _ hT (Obj.isFreed_of_fields (Obj.data_mapFields hdT _)),Obj.data_mapFields hdT _,by simp [hsz3]⟩ fun b o hb hnf=>⟨o.slots,(other b (noRecord b o hb hnf)).trans hb⟩)
theorem fly_note (hfr:A.frames=some (env::outer)) (hf:env.frame=some L) (x:Fly base (env::outer) e cls d .none s.heap) (h:∀ h',Fly base (env::outer) e cls d (rawInt L) h'→s.heap.UpToSlots h'→Q () { s with heap:=h' }) : wpAny M A (noteFrame (.ref e) env) Q E s:=by
  refine oa4 x ?_;(try clear x);intro hkb hen hl z0;refine oe5 z0 ?_;(try clear z0);intro oe vs T oT ts z1;refine oa8 z1 ?_;(try clear z1);intro he z54 hd h1 hnT hTe hT z0;refine oa2 z54 ?_;(try clear z54);intro hcls hdd;refine oa2 z0 ?_;(try clear z0);intro hdT h3
  subst hcls
  have other:∀ b,b≠T→(s.heap.update T (Obj.mapFields (·.setIfInBounds 3 Value.none))).get? b=s.heap.get? b:=fun b hb=>Heap.get?_update_other _ _ (Ne.symm hb)
  have noRecord:∀ b o,s.heap.get? b=some o→(∀ vs,o.data≠.fields vs)→b≠T:=fun b o hb hnf q=>by
    rw [q,hT] at hb
    cases hb
    exact hnf ts hdT
  unfold noteFrame
  simp only [hf]
  refine wpAny_bind (wpAny_field he hd h1 ?_)
  rw [if_pos (show (Value.ref T != Value.none)=true from by simp)]
  refine wpAny_bind (wpAny_field hT hdT h3 ?_)
  rw [if_neg (show ¬ ((Value.none == rawInt L)=true) from by simp [rawInt])]
  refine wpAny_bind (wpAny_setField hT hdT (Array.getElem?_eq_some_iff.mp h3).1 (fly_entry hfr (hl.of_keeps fun b o hb hnf=>⟨o,(other b (noRecord b o hb hnf)).trans hb,rfl⟩) hf ((other e (Ne.symm hTe)).trans he)
    (fun b o hbo=>(other b fun q=>by rw [q,hnT] at hbo;cases hbo).trans (hkb b o hbo)) hen hd (Array.getElem?_eq_some_iff.mp h1).1 hdd fun h' x y=>h h' x fun b o hb hnf=>y b o ((other b (noRecord b o hb hnf)).trans hb) hnf))
theorem fly_first (hfr:A.frames=some (env::outer)) (hf:env.frame=some L) (hl:s.heap.FunFrames base (env::outer)) (he:s.heap.get? e=some oe) (hkb:base.StaysIn s.heap) (hen:base.get? e=none) (hd:oe.data=.fields vs) (h1:vs[1]?=some .none) (hdd:oe.dict=some d)
    (h:∀ h',Fly base (env::outer) e oe.cls d (rawInt L) h'→s.heap.UpToSlots h'→Q () { s with heap:=h' }) : wpAny M A (noteFrame (.ref e) env) Q E s:=by
  unfold noteFrame
  simp only [hf]
  refine wpAny_bind (wpAny_field he hd h1 ?_)
  rw [if_neg (by decide)]
  exact fly_entry hfr hl hf he hkb hen hd (Array.getElem?_eq_some_iff.mp h1).1 hdd h
theorem Fly.out (x:Fly base (env::outer) e cls d fl s.heap) : Fly base outer e cls d fl s.heap:=by
  refine oa4 x ?_;(try clear x);intro a b z55 f;refine oa3 z55 ?_;(try clear z55);intro _ _ c
  exact ⟨a,b,c,f⟩
theorem fly_leave0 (hfr:A.frames=some (env::outer)) (hf:env.frame=some L) (hl:s.heap.FunFrames base (env::outer)) (he:s.heap.get? e=some oe) (hkb:base.StaysIn s.heap) (hen:base.get? e=none) (hd:oe.data=.fields vs) (h1:vs[1]?=some .none) (hdd:oe.dict=some d)
    (h:∀ h',Fly base outer e oe.cls d .none h'→s.heap.UpToSlots h'→Q () { s with heap:=h' }) : wpAny M A (leaving env (.ref e)) Q E s:=by
  unfold leaving
  refine wpAny_bind (fly_first hfr hf hl he hkb hen hd h1 hdd fun h' x y=>fly_land (s:={ s with heap:=h' }) x fun h'' x' y'=>?_)
  refine oa4 x' ?_;(try clear x');intro a b z56 f;refine oa3 z56 ?_;(try clear z56);intro _ _ c
  exact h h'' ⟨a,b,c,f⟩ (y.trans y')
theorem fly_leave (hfr:A.frames=some (env::outer)) (hf:env.frame=some L) (x:Fly base (env::outer) e cls d .none s.heap) (h:∀ h',Fly base outer e cls d .none h'→s.heap.UpToSlots h'→Q () { s with heap:=h' }) : wpAny M A (leaving env (.ref e)) Q E s:=by
  unfold leaving
  refine wpAny_bind (fly_note hfr hf x fun h' x y=>fly_land (s:={ s with heap:=h' }) x fun h'' x' y'=>?_)
  refine oa4 x' ?_;(try clear x');intro a b z57 f;refine oa3 z57 ?_;(try clear z57);intro _ _ c
  exact h h'' ⟨a,b,c,f⟩ (y.trans y')
end
end Mine
namespace Mine
theorem RaisedD.sub {base G:Heap} {l:List Env} {e d:Addr} {news news':Led} {h:Heap} (R:RaisedD base G l e d news h) (k:∀ q∈news',q∈news) : RaisedD base G l e d news' h:=by
  refine oe1 R ?_;(try clear R);intro B z0;refine oa4 z0 ?_;(try clear z0);intro a b c f
  exact ⟨B,a,b,fun q hq=>c q (k q hq),f⟩
theorem mem_frames {env:Env} {outer:List Env} {L b:Addr} (hf:env.frame=some L) (hm:b∈(env::outer).filterMap (·.frame)) : b=L∨b∈outer.filterMap (·.frame):=by
  refine oe1 (List.mem_filterMap.mp hm) ?_;intro env' z0;refine oa2 z0 ?_;(try clear z0);intro he hf'
  rcases List.mem_cons.mp he with rfl | he
  · exact .inl (Option.some.inj (hf'.symm.trans hf))
  · exact .inr (List.mem_filterMap.mpr ⟨env',he,hf'⟩)
section
variable {M:Model} {A:Around} {E:Value→Shared→Prop} {s':Shared} {base g G:Heap} {env:Env} {outer:List Env} {L e d:Addr} {m:Str→Option Value} {oe:Obj} {vs:Array Value} {news:Led} {Q:Unit→Shared→Prop}
theorem raise_leave (K:Below A base outer g) (F:Fr g L s'.heap m) (N:News g L s'.heap news) (hf:env.frame=some L) (hke:env.scope.kind=.function)
    (he:s'.heap.get? e=some oe) (hc:oe.cls=.ref 38) (hge:g.get? e=none) (hd:oe.data=.fields vs) (h1:vs[1]?=some .none) (hdd:oe.dict=some d) (hne:∀ q∈news,q.1≠e)
    (hQ:∀ h',RaisedD base g outer e d news h'→g.UpToSlots h'→Q () { s' with heap:=h' }) : wpAny M (A.deeper env) (leaving env (.ref e)) Q E s':=by
  have K':=pushX K F hf hke
  have nb:∀ b o,base.get? b=some o→b ∉ e::(env::outer).filterMap (·.frame):=fun b o q hm=>by
    rcases List.mem_cons.mp hm with z | hm
    · rw [z] at q
      have:=K.stays _ _ q
      rw [hge] at this
      cases this
    · rw [(K'.frames.mem hm).1] at q
      cases q
  have st:base.StaysIn (hideAll s'.heap (e::(env::outer).filterMap (·.frame))):=fun b o q=>hideAll_get _ (K'.stays b o q) (nb b o q)
  have sg:∀ b o,g.get? b=some o→b ∉ outer.filterMap (·.frame)→(hideAll s'.heap (e::(env::outer).filterMap (·.frame))).get? b=some o:=fun b o q nm=>hideAll_get _ (F.keep b o q) fun hm=>by
    rcases List.mem_cons.mp hm with z | hm
    · rw [z,hge] at q
      cases q
    · rcases mem_frames hf hm with z | z
      · rw [z,kts_self F] at q
        cases q
      · exact nm z
  have hl:∀ q∈news,(hideAll s'.heap (e::(env::outer).filterMap (·.frame))).get? q.1=some q.2∧g.get? q.1=none∧base.get? q.1=none:=fun q hq=>by
    refine ⟨hideAll_get _ (N q hq).1 fun hm=>?_,(N q hq).2.2,fresh_of_stays K.stays (N q hq).2.2⟩
    rcases List.mem_cons.mp hm with z | hm
    · exact hne q hq z
    · rcases mem_frames hf hm with z | z
      · exact (N q hq).2.1 z
      · refine oe1 ((K.frames.mem z).2) ?_;intro o z0;refine oa2 z0 ?_;(try clear z0);intro ho _
        rw [(N q hq).2.2] at ho
        cases ho
  have hin:∀ env'∈(env::outer),∀ b,env'.frame=some b→b∈e::(env::outer).filterMap (·.frame):=fun env' he b hb=>.tail _ (List.mem_filterMap.mpr ⟨env',he,hb⟩)
  refine fly_leave0 K'.stack hf (funFrames_hide K'.frames hin) he (fun b o q=>of_hideAll _ q) (hideAll_none _ (.head _)) hd h1 hdd fun h' x y=>?_
  rw [hc] at x
  exact hQ h' ⟨_,st,sg,hl,x⟩ ((Heap.UpToSlots.of_keeps F.keep).trans y)
theorem raised_on (K:Below A base outer g) (F:Fr g L G m) (hf:env.frame=some L) (R:RaisedD base G (env::outer) e d news s'.heap) (U:G.UpToSlots s'.heap)
    (hQ:∀ h',RaisedD base g outer e d news h'→g.UpToSlots h'→Q () { s' with heap:=h' }) : wpAny M (A.deeper env) (leaving env (.ref e)) Q E s':=by
  refine oe1 R ?_;(try clear R);intro B z0;refine oa4 z0 ?_;(try clear z0);intro hB hBG hl hfl
  refine fly_leave (Around.frames_deeper K.stack) hf hfl fun h' x y=>hQ h' ⟨B,hB,fun b o q nm=>hBG b o (F.keep b o q) fun hm=>?_,fun q hq=>⟨(hl q hq).1,kts_none F.keep (hl q hq).2.1,(hl q hq).2.2⟩,x⟩ ((Heap.UpToSlots.of_keeps F.keep).trans (U.trans y))
  rcases mem_frames hf hm with z | z
  · rw [z,kts_self F] at q
    cases q
  · exact nm z
end
theorem SpecR.use {w:World} {f:Addr} {args:List Value} {dz:Nat} {led:Led} (S:SpecR w f args dz led)
    {p:Program} {loose:List Str} {mean:ExcName→Option Value} {mg mb:Str→Option Value} {dp un:Nat} {gd:Option (List Code)} {cn:Str} {cs:Scope} {a:Addr} {ccd:Value} {cl:List (Str × Addr)} {outer:List Env} {A₀:Around} {base h₀:Heap} {L:Addr} {m:Str→Option Value} {news:Led} {s:Shared} {Q E:Value→Shared→Prop}
    (B:Below A₀ base outer h₀) (F:Fr h₀ L s.heap m) (X:(Mine.hd.heap_1 w.params).In h₀) (N:News h₀ L s.heap news) (k:∀ q∈led,q∈news) (T:Top p loose mean mg mb h₀) (hk:cs.kind=.function) (hd:dp+dz<recursionLimit) (hu:un+8 * dz<cLine)
    (ret:∀ G e d od h' tk',Fr h₀ L G m→G.UpToSlots h'→SymOk od→RaisedD base G (envX cn cs L a ccd cl::outer) e d ((d,od)::news) h'→E (.ref e) { s with heap:=h',toks:=tk' }) :
    wpAny (model PySem.Challenge.rw_ok0063_01.prog w) (ktrTop dp un gd cn cs L a ccd cl outer) (call (.ref f) args) Q E s :=
  S p loose mean mg mb dp un gd cn cs a ccd cl outer A₀ base h₀ L m news s Q E B F X (fun q hq=>N q ((List.mem_append.mp hq).elim (k q) id)) T hk hd hu fun G e d od h' tk' FG U hO R=>ret G e d od h' tk' FG U hO (R.sub fun q hq=>by
    rcases List.mem_cons.mp hq with rfl | hq
    · exact .head _
    · exact .tail _ (List.mem_append.mpr (.inr hq)))
end Mine
namespace Mine
theorem cls38 (w:World) : ∃ nm q bs sn sub ab col dd k0 k1 k2 k3 k5,(Mine.hd.heap_1 w.params).lookup 38=some (excClassObj nm q 38 37 bs [.type "Exception",.type "BaseException",.type "object"] true sn sub ab col dd k0 k1 k2 k3 k5 "Exception.__new__"):=⟨_,_,_,_,_,_,_,_,_,_,_,_,_,rfl⟩
theorem ns_found {K:Frag} {h:Heap} {N:Addr} {o:Obj} {es:Array DictEntry} {ep:Nat} (X:K.In h) (e:K.lookup N=some o) (hd:o.data=.dict es ep) (hk:StrKeys es) : h.Ns N fun y=>nsFind es y:=⟨o,es,ep,X _ _ e,hd,hk,fun _=>rfl⟩
theorem ns37 {w:World} {h:Heap} (X:(Mine.hd.heap_1 w.params).In h) : ∃ mN,h.Ns 37 mN∧mN "__init__" = some (.ref 35)∧mN "symbol" = none∧mN "data" = none∧mN "__setattr__" = none∧mN "__getattribute__" = none∧mN "__getattr__" = none:=by
  obtain ⟨o,es,ep,e,hd,hk,h1,h2,h3,h4,h5,h6⟩ : ∃ o es ep,(Mine.hd.heap_1 w.params).lookup 37=some o∧o.data=.dict es ep∧StrKeys es∧nsFind es "__init__" = some (.ref 35)∧nsFind es "symbol" = none∧nsFind es "data" = none∧nsFind es "__setattr__" = none∧nsFind es "__getattribute__" = none∧nsFind es "__getattr__" = none:=by
    refine ⟨_,_,_,rfl,rfl,?_,rfl,rfl,rfl,rfl,rfl,rfl⟩
    intro e he
    simp only [List.mem_toArray,List.mem_cons,List.not_mem_nil,or_false] at he
    rcases he with rfl | rfl | rfl | rfl | rfl | rfl <;> exact ⟨_,_,rfl⟩
  exact ⟨_,ns_found X e hd hk,h1,h2,h3,h4,h5,h6⟩
end Mine
namespace Mine
section
variable {prog:Program} {w:World} {A0:Around} {E:Value→Shared→Prop} {s:Shared} {h₀:Heap} {L e d:Addr} {m:Str→Option Value} {news:Led} {vs:Array Value} {v v2:Value} {od:Obj} {Q:Unit→Shared→Prop}
theorem xl_symbol:typeLookup (.type "Exception") (ofString "symbol")=pure none:=by rw [typeLookup_type,builtinLookup_eq_fast];kernel_rfl
theorem xl_data:typeLookup (.type "Exception") (ofString "data")=pure none:=by rw [typeLookup_type,builtinLookup_eq_fast];kernel_rfl
theorem set_first (F:Fr h₀ L s.heap m) (X:(Mine.hd.heap_1 w.params).In h₀) (N:News h₀ L s.heap ((e,excO vs)::news)) (hne:∀ q∈news,q.1≠e)
    (h:∀ d od h' tk',Fr h₀ L h' m→News h₀ L h' ((e,excOd vs d)::(d,od)::news)→d≠e→(∀ q∈(e,excO vs)::news,q.1<d)→NsOk od (symM v)→Q () { s with heap:=h',toks:=tk' }) :
    wpAny (model prog w) A0 (setAttr (.ref e) (ofString "symbol") v) Q E s:=by
  refine oe8 (cls38 w) ?_;intro nm q bs sn sub ab col dd z0;refine oe5 z0 ?_;(try clear z0);intro k0 k1 k2 k3 k5 hC
  refine oe1 (ns37 (X.keeps F.keep)) ?_;intro mN z0;refine oa7 z0 ?_;(try clear z0);intro hn z58 hs z59 hsa z60 z61;obtain-:= z58;obtain-:= z59;obtain-:= z60;obtain-:= z61
  obtain ⟨hh,g,dr,t,os⟩:=s
  refine oa3 (N _ (.head _)) ?_;intro he heL he0
  refine xc_first PySem.F.store_Exception (X.keeps F.keep _ _ hC) hn hsa hs xl_symbol he rfl (fun c z=>by cases z) rfl fun h' tk' hx hns keep=>?_
  refine oe3 hns ?_;(try clear hns);intro o es ep z0;refine oa5 z0 ?_;(try clear z0);intro ho hd hk hu hf
  have hlt:∀ q∈(e,excO vs)::news,q.1<hh.objs.size:=fun q hq=>Heap.lt_size (N q hq).1
  have hde:hh.objs.size≠e:=Nat.ne_of_gt (Heap.lt_size he)
  have hLn:L≠e:=fun z=>heL z.symm
  refine h _ o h' tk' ⟨?_,fun b o hb=>keep b o (fun z=>by rw [z,he0] at hb;cases hb) (F.keep _ _ hb),F.above⟩ (fun q hq=>?_) hde hlt ⟨es,ep,hd,hk,hu,fun name=>(hf name).trans rfl⟩
  · refine oe3 F.ns ?_;intro oL esL epL z0;refine oa4 z0 ?_;(try clear z0);intro hL hLd hLk hLf
    exact ⟨oL,esL,epL,keep _ _ hLn hL,hLd,hLk,hLf⟩
  · rcases List.mem_cons.mp hq with rfl | hq
    · exact ⟨hx,heL,he0⟩
    · rcases List.mem_cons.mp hq with rfl | hq
      · exact ⟨ho,Nat.ne_of_gt F.ns.lt,none_at_size F⟩
      · exact ⟨keep _ _ (hne q hq) (N q (.tail _ hq)).1,(N q (.tail _ hq)).2⟩
theorem set_second (F:Fr h₀ L s.heap m) (X:(Mine.hd.heap_1 w.params).In h₀) (N:News h₀ L s.heap ((e,excOd vs d)::(d,od)::news)) (hde:d≠e) (hne:∀ q∈news,q.1≠e) (hnd:∀ q∈news,q.1≠d) (hod:NsOk od (symM v))
    (h:∀ od h' tk',Fr h₀ L h' m→News h₀ L h' ((e,excOd vs d)::(d,od)::news)→NsOk od (symM2 v v2)→Q () { s with heap:=h',toks:=tk' }) :
    wpAny (model prog w) A0 (setAttr (.ref e) (ofString "data") v2) Q E s:=by
  refine oe8 (cls38 w) ?_;intro nm q bs sn sub ab col dd z0;refine oe5 z0 ?_;(try clear z0);intro k0 k1 k2 k3 k5 hC
  refine oe1 (ns37 (X.keeps F.keep)) ?_;intro mN z0;refine oa7 z0 ?_;(try clear z0);intro hn z62 z63 hs hsa z64 z65;obtain-:= z62;obtain-:= z63;obtain-:= z64;obtain-:= z65
  obtain ⟨hh,g,dr,t,os⟩:=s
  refine oa3 (N _ (.head _)) ?_;intro he heL he0
  refine oa3 (N _ (.tail _ (.head _))) ?_;intro hd hdL hd0
  refine oe2 hod ?_;(try clear hod);intro es ep z0;refine oa4 z0 ?_;(try clear z0);intro hdd hk hu hf
  have hC':=X.keeps F.keep _ _ hC
  have hxC:e≠38:=fun z=>by
    have:=X _ _ hC
    rw [z] at he0
    rw [he0] at this
    cases this
  have I:hh.Inst e 38 (symM v):=⟨_,he,rfl,(fun c z=>by cases z),.inr ⟨d,rfl,hde,od,es,ep,hd,hdd,hk,hu,hf⟩⟩
  refine store_attr (ns:=[ofString "symbol"]) PySem.F.store_Exception hC' hn hsa hs xl_data hxC I (fun h' tk' I' keep same=>?_) (Within.cons _ v Within.nil) (by decide)
  refine oe1 (same _ he) ?_;intro o₁ z0;refine oa5 z0 ?_;(try clear z0);intro h1 h2 h3 h4 h5
  refine oe1 I' ?_;(try clear I');intro o₂ z0;refine oa4 z0 ?_;(try clear z0);intro g1 g2 g3 g4
  rw [h1] at g1
  cases g1
  have e1:o₁=excOd vs d:=by
    obtain ⟨a1,a2,a3,a4⟩:=o₁
    have:=h5 d rfl
    dsimp only at h2 h3 h4 this
    subst h2 h3 h4 this
    rfl
  subst e1
  rcases g4 with ⟨z,-⟩ | ⟨dx,z,-,o,es',ep',ho',hd',hk',hu',hf'⟩
  · cases z
  cases z
  have keep':∀ b o,b≠e→b≠d→hh.get? b=some o→h'.get? b=some o:=fun b o h1 h2 hb=>keep b o h1 (fun o₀ dx z1 z2=>by
    rw [he] at z1
    cases z1
    cases z2
    exact h2) hb
  refine h o h' tk' ⟨?_,fun b o hb=>keep' b o (fun z=>by rw [z,he0] at hb;cases hb) (fun z=>by rw [z,hd0] at hb;cases hb) (F.keep _ _ hb),F.above⟩ (fun q hq=>?_) ⟨es',ep',hd',hk',hu',fun name=>(hf' name).trans rfl⟩
  · refine oe3 F.ns ?_;intro oL esL epL z0;refine oa4 z0 ?_;(try clear z0);intro hL hLd hLk hLf
    exact ⟨oL,esL,epL,keep' _ _ (fun z=>heL z.symm) (fun z=>hdL z.symm) hL,hLd,hLk,hLf⟩
  · rcases List.mem_cons.mp hq with rfl | hq
    · exact ⟨h1,heL,he0⟩
    · rcases List.mem_cons.mp hq with rfl | hq
      · exact ⟨ho',hdL,hd0⟩
      · exact ⟨keep' _ _ (hne q hq) (hnd q hq) (N q (.tail _ (.tail _ hq))).1,(N q (.tail _ (.tail _ hq))).2⟩
end
end Mine
namespace Mine
theorem lt_ne {p:Addr × Obj} {r:Led} {d:Addr} (h:∀ q∈p::r,q.1<d) : ∀ q∈r,q.1≠d:=fun q hq=>Nat.ne_of_lt (h q (.tail _ hq))
section
variable {e:Addr} {vs:Array Value} {v v2:Value}
theorem kw65_1:True:=by
  k_with "setAttr ref" => ((fail_if_success have:=@e65_1);k_here;(with_reducible show wpAny _ _ (setAttr (Value.ref _) (ofString "symbol") _) _ _ _);k_dflt (refine' set_first ?F ?X ?N ?ne ?_;(case F=>k_asm);(case X=>k_asm);(case N=>k_asm);(case ne=>assumption);k_whole);intro d9 od9 h' tk' F' N' de9 lt9 ok9;(have nd9:=lt_ne lt9);(try dsimp only))
  k_with "setAttr ref" => ((fail_if_success have:=@e65_1);k_here;(with_reducible show wpAny _ _ (setAttr (Value.ref _) (ofString "data") _) _ _ _);k_dflt (refine' set_second ?F ?X ?N ?de ?ne ?nd ?od ?_;(case F=>k_asm);(case X=>k_asm);(case N=>k_asm);(case de=>assumption);(case ne=>assumption);(case nd=>assumption);(case od=>assumption);k_whole);intro od9 h' tk' F' N' ok9;(try dsimp only))
  trivial
theorem init_ls (w:World) : SpecF w 35 [.ref e,v,v2] 1 [(e,excO vs)] [e] fun r led fr=>∃ d od,r=.none∧led=[(e,excOd vs d),(d,od)]∧fr=[d]∧NsOk od (symM2 v v2):=by
  intro p loose mean mg mb dp un gd cn cs a ccd cl outer A₀ base h₀ L m rest s Q E B F X N hr Tp hk hd hu ret
  simp only [List.cons_append,List.nil_append] at N
  have r1:=hr.ne (d:=e) (by k_extra "mem")
  revert X;k_fill;intro X
  refine wpAny_call ?_
  k_dflt (refine' enterZ [ofString "self",ofString "symbol",ofString "data"] (l':=[(ofString "data",_),(ofString "symbol",_),(ofString "self",_)]) ?k1 ?k2 ?k3 ?k4 ?k5 ?kA ?kF ?kK ?k6 ?k7 ?k8 ?k9 ?kB ?kL ?_ ?c2 ?c3 ?c4 ?c5;k_extra "ez")
  k_steps
  exact ret _ _ _ _ _ ⟨_,_,rfl,rfl,rfl,by assumption⟩ (fun z hz q hq=>by rw [List.mem_singleton.mp hz];exact (by assumption:∀ q∈(e,excO vs)::rest,q.1<_) q hq) ‹_› ‹_›
theorem e65_1:True:=trivial
end
section
variable {w:World} {p:Program} {loose:List Str} {mean:ExcName→Option Value} {mg mb:Str→Option Value} {dp un:Nat} {gd:Option (List Code)} {cn:Str} {cs:Scope} {a:Addr} {ccd:Value} {cl:List (Str × Addr)} {outer:List Env} {A₀:Around} {base h₀:Heap} {L:Addr} {m:Str→Option Value} {news:Led} {s:Shared} {Q E:Value→Shared→Prop} {v v2:Value}
theorem under_tc {c:Args} (h:∃ C r k,c=⟨.ref C::r,k⟩) : (ktrTop dp un gd cn cs L a ccd cl outer).under (.builtin "type.__call__" c)=ktrTop (dp+1) (un+(Code.builtin "type.__call__" c).cUnits) gd cn cs L a ccd cl outer:=by
  refine oe3 h ?_;(try clear h);intro C r k z66;obtain rfl:=z66
  rfl
theorem make_ls (B:Below A₀ base outer h₀) (F:Fr h₀ L s.heap m) (X:(Mine.hd.heap_1 w.params).In h₀) (N:News h₀ L s.heap news) (T:Top p loose mean mg mb h₀) (hk:cs.kind=.function) (hd:dp+2<recursionLimit) (hu:un+16<cLine)
    (ret:∀ e d od vs h' tk',vs[1]?=some .none→NsOk od (symM2 v v2)→Fr h₀ L h' m→News h₀ L h' ((e,excOd vs d)::(d,od)::news)→(∀ q∈(d,od)::news,q.1≠e)→Q (.ref e) { s with heap:=h',toks:=tk' }) :
    wpAny (model PySem.Challenge.rw_ok0063_01.prog w) (ktrTop dp un gd cn cs L a ccd cl outer) (call (.ref 38) [v,v2]) Q E s:=by
  refine oe8 (cls38 w) ?_;intro nm q bs sn sub ab col dd z0;refine oe5 z0 ?_;(try clear z0);intro k0 k1 k2 k3 k5 hC
  refine oe1 (ns37 (X.keeps F.keep)) ?_;intro mN z0;refine oa7 z0 ?_;(try clear z0);intro hn hi z67 z68 z69 z70 z71;obtain-:= z67;obtain-:= z68;obtain-:= z69;obtain-:= z70;obtain-:= z71
  obtain ⟨hh,g,dr,t,os⟩:=s
  obtain ⟨oI,hoI,hcI⟩ : ∃ o,(Mine.hd.heap_1 w.params).lookup 35=some o∧o.cls=.type "function" := ⟨_,rfl,rfl⟩
  refine wpAny_call_exc_init PySem.F.excBase_Exception (X.keeps F.keep _ _ hC) hn hi (X.keeps F.keep _ _ hoI) hcI (fun h' e hm=>?_) (by show 2≤sizeLine;rw [sizeLine_eq];omega)
  refine oe1 hm.there ?_;intro tt z0;refine oa3 z0 ?_;(try clear z0);intro he ht0 ht
  have hhe:=hm.new
  have F':Fr h₀ L h' m:=F.keeps hm.keeps
  have eb:h₀.get? e=none:=kts_none F.keep hhe
  have tb:h₀.get? tt=none:=kts_none F.keep ht0
  have neL:∀ b,hh.get? b=none→b≠L:=fun b hb z=>by
    refine oe3 F.ns ?_;intro o _ _ z0;refine oa2 z0 ?_;(try clear z0);intro ho _
    rw [z,ho] at hb
    cases hb
  have N':News h₀ L h' ([(e,excO #[.ref tt,.none,.none,.none,.bool false,.none])]++news):=fun q hq=>by
    rcases List.mem_cons.mp hq with rfl | hq
    · exact ⟨he,neL _ hhe,eb⟩
    · exact ⟨hm.keeps _ _ (N q hq).1,(N q hq).2⟩
  have hne:∀ q∈news,q.1≠e:=fun q hq z=>by
    have:=(N q hq).1
    rw [z,hhe] at this
    cases this
  rw [under_tc ⟨_,_,_,rfl⟩]
  refine init_ls w p loose mean mg mb _ _ gd cn cs a ccd cl outer A₀ base h₀ L m news _ _ _ B F' X N' (fun q hq hm=>hne q hq (List.mem_singleton.mp hm)) T hk (by omega) ?_ ?_
  · have:(Code.builtin "type.__call__" ⟨[.ref 38,v,v2],[]⟩).cUnits≤8:=Nat.le_of_ble_eq_true rfl
    omega
  · rintro r led' fr h'' tk' ⟨d,od,rfl,rfl,rfl,hod⟩ hf F'' N''
    refine ⟨rfl,ret e d od _ h'' tk' rfl hod F'' N'' fun q hq=>?_⟩
    rcases List.mem_cons.mp hq with rfl | hq
    · exact fun z=>absurd (hf d (.head _) _ (.head _)) (by rw [show d=e from z];exact Nat.lt_irrefl _)
    · exact hne q hq
end
end Mine
namespace Mine
theorem symOk_of {od:Obj} {t:Tok} {v2:Value} (h:NsOk od (symM2 (.str (ofString "error") t) v2)) : SymOk od:=by
  refine oe2 h ?_;(try clear h);intro es ep z0;refine oa4 z0 ?_;(try clear z0);intro hd hk hu hf
  refine ⟨es,ep,t,hd,hk,(hf _).trans ?_⟩
  unfold symM2 symM
  rw [if_neg (by decide),if_pos rfl]
theorem israised_leave {M:Model} {w:World} {A:Around} {E':Value→Shared→Prop} {s':Shared} {base g:Heap} {env:Env} {outer:List Env} {L e d:Addr} {m:Str→Option Value} {od:Obj} {vs:Array Value} {news:Led} {Q:Value→Unit→Shared→Prop} {t:Tok} {v2:Value}
    (K:Below A base outer g) (X:(Mine.hd.heap_1 w.params).In g) (F:Fr g L s'.heap m) (N:News g L s'.heap ((e,excOd vs d)::(d,od)::news)) (hne:∀ q∈(d,od)::news,q.1≠e) (h1:vs[1]?=some .none) (hod:NsOk od (symM2 (.str (ofString "error") t) v2))
    (hf:env.frame=some L) (hke:env.scope.kind=.function) (hQ:∀ h',RaisedD base g outer e d ((d,od)::news) h'→SymOk od→g.UpToSlots h'→Q (.ref e) () { s' with heap:=h' }) :
    IsRaised w (fun e s'=>wpAny M (A.deeper env) (leaving env e) (Q e) E' s') (.ref e) s' :=
  ⟨e,d,vs,rfl,X.keeps F.keep,(N _ (.head _)).1,h1,raise_leave K F (fun q hq=>N q (.tail _ hq)) hf hke (N _ (.head _)).1 rfl (N _ (.head _)).2.2 rfl h1 rfl hne fun h' R U=>hQ h' R (symOk_of hod) U⟩
section
variable {prog:Program} {w:World} {A:Around} {E:Value→Shared→Prop} {s:Shared} {env:Env}
end
section
namespace Z2
theorem c_raise_stmt:∀ x Q,P_raise_stmt prog w A E s env x Q:=by
  intro x Q hh h
  unfold raiseStmt
  refine wpAny_bind (wpAny_mono h (fun v s₁ h₁=>?_) fun _ _ x=>x)
  refine oe3 h₁ ?_;(try clear h₁);intro e d vs z0;refine oa5 z0 ?_;(try clear z0);intro z72 X he h1 hE;obtain rfl:=z72
  refine oe8 (cls38 w) ?_;intro nm q bs sn sub ab col dd z0;refine oe5 z0 ?_;(try clear z0);intro k0 k1 k2 k3 k5 hC
  have hC:=X _ _ hC
  obtain ⟨hp,g,dr,tk,os⟩:=s₁
  have hcB:(Value.ref 38::[.type "Exception",.type "BaseException",.type "object"]).contains (.type "BaseException")=true:=rfl
  repeat (first | with_reducible refine wpAny_loadPart_at he ?_ | with_reducible refine wpAny_loadPart_at hC ?_ | (with_reducible refine wpAny_isSubtype_exc hC ?_;rw [hcB]) | with_reducible refine wpAny_field he rfl h1 ?_ | wp_step)
  exact wpAny_raiseNew_none hh hE
end Z2
theorem h_43:∀ j,j<43→∀ u,Pf j u:=histS 42 h_42 (gen 42 h_42 (by with_unfolding_all exact Z2.c_raise_stmt))
theorem raise_stmt {prog:Program} {w:World} {A:Around} {E:Value→Shared→Prop} {s:Shared} {env:Env} {x:Sem Value} {Q:Flow→Shared→Prop} : P_raise_stmt prog w A E s env x Q:=by with_unfolding_all exact h_43 42 (Nat.lt_succ_self 42) (sk0 |>.set 0 0 prog |>.set 1 0 w |>.set 2 0 A |>.set 3 0 E |>.set 4 0 s |>.set 18 0 env) x Q
end
section
variable {prog:Program} {w:World} {A:Around} {E:Value→Shared→Prop} {s:Shared} {env:Env}
theorem raise_exec {x:Expr} {pos:Pos} {Q:Flow→Shared→Prop} (hh:A.handled=none)
    (h:wpAny (model prog w) A (eval x env) (fun v s₁=>IsRaised w E v s₁) E s) : wpAny (model prog w) A (exec (.Raise (some x) none pos) env) Q E s:=by
  rw [arm_exec_Raise]
  refine wpAny_bind (wpAny_standAt (raise_stmt (w:=w) hh (wpAny_bind (wpAny_mono h (fun v s₃ h₃=>wpAny_bind (wpAny_standAt (wpAny_pure h₃))) fun _ _ x=>x))))
end
end Mine
namespace Mine
section
variable {w:World} {A:Ad} {σ:Sg} {i j k h:Int}
theorem kw67_1:True:=by
  k_with "exec Raise some none" => ((fail_if_success have:=@e67_1);k_here;k_dflt (refine' raise_exec ?hh ?_;(case hh=>exact rfl);k_whole))
  k_with "call ref" => ((fail_if_success have:=@e67_1);k_here;(with_reducible show wpAny _ _ (call (Value.ref 38) [_,_]) _ _ _);k_dflt (refine' make_ls ?B ?F ?X ?N ?T ?hk ?hd ?hu ?_;k_extra "us4";k_extra "us5";k_whole);intro e9 d9 od9 vs9 h' tk' hv9 hod9 F' N' hne9;(try dsimp only))
  trivial
theorem r_place (hi:i∈ids) (e:σ.home i=-1) (l:Led) (hS:St w A σ l) : SpecR w 62 [.ref (A.ma i)] 4 l:=by
  intro p loose mean mg mb dp un gd cn cs a ccd cl outer A₀ base h₀ L m rest s Q E B F X N Tp hk hd hu ret
  have eb:bufV A (σ.home i)=.none:=by rw [e];rfl
  revert X;k_fill;intro X
  refine wpAny_call ?_
  k_dflt (refine' enterZ [ofString "marker"] (l':=[(ofString "marker",_)]) ?k1 ?k2 ?k3 ?k4 ?k5 ?kA ?kF ?kK ?k6 ?k7 ?k8 ?k9 ?kB ?kL ?_ ?c2 ?c3 ?c4 ?c5;k_extra "ez")
  k_steps
  rename Fr _ _ _ _=>F9
  rename NsOk _ _=>hod9
  rename _=some Value.none=>hv9
  rename ∀ q∈_::_,_≠_=>hne9
  rename News _ _ _ _=>N9
  refine' israised_leave ?K ?X ?F ?N ?ne ?hv ?hod ?hf ?hke ?_
  (case K=>exact B')
  (case X=>exact X')
  (case F=>exact F9)
  (case N=>exact N9)
  (case ne=>exact hne9)
  (case hv=>exact hv9)
  (case hod=>exact hod9)
  (case hf=>exact rfl)
  (case hke=>exact rfl)
  intro h9 R9 S9 U9
  refine ret _ _ _ _ h9 _ FG' U9 S9 (R9.sub ?_)
  intro q hq
  rcases List.mem_cons.mp hq with rfl | hq
  · exact .head _
  · exact .tail _ (.tail _ hq)
theorem kw67_2:True:=by
  k_with "call ref" => ((fail_if_success have:=@e67_1);k_here;(with_reducible show wpAny _ _ (call (Value.ref 62) _) _ _ _);k_dflt (refine' SpecR.use (r_place ?y0 ?y1 _ ?hS) ?B ?F ?X ?N ?k ?T ?hk ?hd ?hu ?_;(case y0=>assumption);(case y1=>assumption);(case hS=>assumption);k_extra "us4";(case k=>(k_extra "opq"));k_extra "us5";k_whole);intro G9 e9 d9 od9 h' tk' FG9 U9 S9 R9;(try dsimp only))
  trivial
theorem r_goto0 (hi:i∈ids) (e:σ.home i=-1) (l:Led) (hS:St w A σ l) : SpecR w 69 [.ref (A.b j),.ref (A.ma i)] 6 l:=by
  intro p loose mean mg mb dp un gd cn cs a ccd cl outer A₀ base h₀ L m rest s Q E B F X N Tp hk hd hu ret
  revert X;k_fill;intro X
  refine wpAny_call ?_
  k_dflt (refine' enterZ [ofString "buffer",ofString "marker"] (l':=[(ofString "marker",_),(ofString "buffer",_)]) ?k1 ?k2 ?k3 ?k4 ?k5 ?kA ?kF ?kK ?k6 ?k7 ?k8 ?k9 ?kB ?kL ?_ ?c2 ?c3 ?c4 ?c5;k_extra "ez")
  k_steps
  rename RaisedD _ _ _ _ _ _ _=>R9
  rename Heap.UpToSlots _ _=>U9
  rename SymOk _=>S9
  rename Fr _ _ _ _=>FG9
  refine' raised_on ?K ?F ?hf ?R ?U ?_
  (case K=>exact B')
  (case F=>exact FG9)
  (case hf=>exact rfl)
  (case R=>exact R9)
  (case U=>exact U9)
  intro h9 R8 U8
  exact ret _ _ _ _ h9 _ FG' U8 S9 R8
theorem e67_1:True:=trivial
end
section
variable {w:World} {A:Ad} {σ:Sg} {i j k h:Int}
theorem kw67_3:True:=by
  k_with "exec Raise some none" => ((fail_if_success have:=@e67_2);k_here;k_dflt (refine' raise_exec ?hh ?_;(case hh=>exact rfl);k_whole))
  k_with "call ref" => ((fail_if_success have:=@e67_2);k_here;(with_reducible show wpAny _ _ (call (Value.ref 38) [_,_]) _ _ _);k_dflt (refine' make_ls ?B ?F ?X ?N ?T ?hk ?hd ?hu ?_;k_extra "us4";k_extra "us5";k_whole);intro e9 d9 od9 vs9 h' tk' hv9 hod9 F' N' hne9;(try dsimp only))
  trivial
theorem st_place0 (hi:i∈ids) (hh:h∈sides) (e:σ.home i=h) (l:Led) (hS:St w A σ l) : Spec w 62 [.ref (A.ma i)] 2 l [] fun v l'=>(∃ t,v=.int (σ.pos i) t)∧l'=l:=by
  intro p loose mean mg mb dp un gd cn cs a ccd cl outer A₀ base h₀ L m rest s Q E B F X N hr Tp hk hd hu ret
  have eb:bufV A (σ.home i)=.ref (A.b h):=by rw [e,bufV_side hh]
  revert X;k_fill;intro X
  refine wpAny_call ?_
  k_dflt (refine' enterZ [ofString "marker"] (l':=[(ofString "marker",_)]) ?k1 ?k2 ?k3 ?k4 ?k5 ?kA ?kF ?kK ?k6 ?k7 ?k8 ?k9 ?kB ?kL ?_ ?c2 ?c3 ?c4 ?c5;k_extra "ez")
  k_steps
  all_goals (
    rename News h₀ L _ _=>N9
    skip
    refine' ret _ _ _ _ ⟨⟨_,rfl⟩,rfl⟩ ?F (News.sub N9 ?S)
    (case F=>assumption)
    (case S=>(intro q h;first | exact h | simp only [List.mem_cons,List.mem_append] at h ⊢;rcases h with h | h <;> simp only [h,true_or,or_true])))
theorem kw67_4:True:=by
  k_with "call ref" => ((fail_if_success have:=@e67_2);k_here;(with_reducible show wpAny _ _ (call (Value.ref 62) _) _ _ _);k_dflt (refine' Spec.useC (ledx:=[]) (st_place0 ?y0 ?y1 ?y2 _ ?hS) ?B ?F ?X ?N ?C ?P ?hr ?T ?hk ?hd ?hu ?_;k_extra "us2";(case y0=>assumption);(case y1=>assumption);(case y2=>assumption);(case hr=>k_extra "h1");k_whole);intro v9 led9 h' tk' hP9;refine oa2 hP9 ?_;(try clear hP9);intro z73 hl9;refine oe1 z73 ?_;(try clear z73);intro t9 hv9;subst hv9;subst hl9;intro F' N';(replace N':=reorder (a:=[]) N');k_extra "nn")
  trivial
end
section
namespace Z2
theorem c_r_goto1:∀ A h l,P_r_goto1 SpecRC w σ (k15 7) j A h l:=by
  intro A h l ok hi hj hh e hne hS
  intro B F X N Tp hk hd hu ret
  have eb:bufV A (σ.home (k15 7))=.ref (A.b h):=by rw [e,bufV_side hh]
  revert X;k_fill;intro X
  refine wpAny_call ?_
  k_dflt (refine' enterZ [ofString "buffer",ofString "marker"] (l':=[(ofString "marker",_),(ofString "buffer",_)]) ?k1 ?k2 ?k3 ?k4 ?k5 ?kA ?kF ?kK ?k6 ?k7 ?k8 ?k9 ?kB ?kL ?_ ?c2 ?c3 ?c4 ?c5;k_extra "ez")
  k_steps
  rename Fr _ _ _ _=>F9
  rename NsOk _ _=>hod9
  rename _=some Value.none=>hv9
  rename ∀ q∈_::_,_≠_=>hne9
  rename News _ _ _ _=>N9
  refine' israised_leave ?K ?X ?F ?N ?ne ?hv ?hod ?hf ?hke ?_
  (case K=>exact B')
  (case X=>exact X')
  (case F=>exact F9)
  (case N=>exact N9)
  (case ne=>exact hne9)
  (case hv=>exact hv9)
  (case hod=>exact hod9)
  (case hf=>exact rfl)
  (case hke=>exact rfl)
  intro h9 R9 S9 U9
  refine ret _ _ _ _ h9 _ FG' U9 S9 (R9.sub ?_)
  intro q hq
  rcases List.mem_cons.mp hq with rfl | hq
  · exact .head _
  · exact .tail _ (.tail _ hq)
end Z2
theorem h_44:∀ j,j<44→∀ u,Pf j u:=histS 43 h_43 (gen 43 h_43 (by with_unfolding_all exact Z2.c_r_goto1))
theorem r_goto1 {w:World} {A:Ad} {σ:Sg} {i j h:Int} (ok:A.Ok) (hi:i∈ids) (hj:j∈sides) (hh:h∈sides) (e:σ.home i=h) (hne:h≠j) (l:Led) (hS:St w A σ l) : SpecR w 69 [.ref (A.b j),.ref (A.ma i)] 6 l:=fun p loose mean mg mb dp un gd cn cs a ccd cl outer A₀ base h₀ L m rest s Q E=>by with_unfolding_all exact h_44 43 (Nat.lt_succ_self 43) (sk0 |>.set 1 0 w |>.set 28 0 σ |>.set 15 7 i |>.set 15 10 j |>.ctx p loose mean mg mb dp un gd cn cs a ccd cl outer A₀ base h₀ L m rest s Q E) A h l ok hi hj hh e hne hS
end
section
variable {w:World} {A:Ad} {σ:Sg} {i j k h:Int}
theorem r_region0 (hm:σ.marked=false) (l:Led) (hS:St w A σ l) : SpecR w 83 [.ref (A.b 0)] 4 l:=by
  intro p loose mean mg mb dp un gd cn cs a ccd cl outer A₀ base h₀ L m rest s Q E B F X N Tp hk hd hu ret
  have em:σ.mark A 0=.none:=by rw [Sg.mark,if_pos rfl,hm];rfl
  revert X;k_fill;intro X
  refine wpAny_call ?_
  k_dflt (refine' enterZ [ofString "buffer"] (l':=[(ofString "buffer",_)]) ?k1 ?k2 ?k3 ?k4 ?k5 ?kA ?kF ?kK ?k6 ?k7 ?k8 ?k9 ?kB ?kL ?_ ?c2 ?c3 ?c4 ?c5;k_extra "ez")
  k_steps
  rename Fr _ _ _ _=>F9
  rename NsOk _ _=>hod9
  rename _=some Value.none=>hv9
  rename ∀ q∈_::_,_≠_=>hne9
  rename News _ _ _ _=>N9
  refine' israised_leave ?K ?X ?F ?N ?ne ?hv ?hod ?hf ?hke ?_
  (case K=>exact B')
  (case X=>exact X')
  (case F=>exact F9)
  (case N=>exact N9)
  (case ne=>exact hne9)
  (case hv=>exact hv9)
  (case hod=>exact hod9)
  (case hf=>exact rfl)
  (case hke=>exact rfl)
  intro h9 R9 S9 U9
  refine ret _ _ _ _ h9 _ FG' U9 S9 (R9.sub ?_)
  intro q hq
  rcases List.mem_cons.mp hq with rfl | hq
  · exact .head _
  · exact .tail _ (.tail _ hq)
theorem r_region1 (hm:σ.marked=true) (e:σ.home 3=-1) (l:Led) (hS:St w A σ l) : SpecR w 83 [.ref (A.b 0)] 4 l:=by
  intro p loose mean mg mb dp un gd cn cs a ccd cl outer A₀ base h₀ L m rest s Q E B F X N Tp hk hd hu ret
  have em:σ.mark A 0=.ref (A.ma 3):=by rw [Sg.mark,if_pos rfl,if_pos hm]
  have eb:bufV A (σ.home 3)=.none:=by rw [e];rfl
  revert X;k_fill;intro X
  refine wpAny_call ?_
  k_dflt (refine' enterZ [ofString "buffer"] (l':=[(ofString "buffer",_)]) ?k1 ?k2 ?k3 ?k4 ?k5 ?kA ?kF ?kK ?k6 ?k7 ?k8 ?k9 ?kB ?kL ?_ ?c2 ?c3 ?c4 ?c5;k_extra "ez")
  k_steps
  rename Fr _ _ _ _=>F9
  rename NsOk _ _=>hod9
  rename _=some Value.none=>hv9
  rename ∀ q∈_::_,_≠_=>hne9
  rename News _ _ _ _=>N9
  refine' israised_leave ?K ?X ?F ?N ?ne ?hv ?hod ?hf ?hke ?_
  (case K=>exact B')
  (case X=>exact X')
  (case F=>exact F9)
  (case N=>exact N9)
  (case ne=>exact hne9)
  (case hv=>exact hv9)
  (case hod=>exact hod9)
  (case hf=>exact rfl)
  (case hke=>exact rfl)
  intro h9 R9 S9 U9
  refine ret _ _ _ _ h9 _ FG' U9 S9 (R9.sub ?_)
  intro q hq
  rcases List.mem_cons.mp hq with rfl | hq
  · exact .head _
  · exact .tail _ (.tail _ hq)
theorem kw67_5:True:=by
  k_with "call ref" => ((fail_if_success have:=@e67_2);k_here;(with_reducible show wpAny _ _ (call (Value.ref 83) _) _ _ _);k_dflt (refine' SpecR.use (r_region1 ?y0 ?y1 _ ?hS) ?B ?F ?X ?N ?k ?T ?hk ?hd ?hu ?_;(case y0=>assumption);(case y1=>assumption);(case hS=>assumption);k_extra "us4";(case k=>(k_extra "opq"));k_extra "us5";k_whole);intro G9 e9 d9 od9 h' tk' FG9 U9 S9 R9;(try dsimp only))
  k_with "call ref" => ((fail_if_success have:=@e67_2);k_here;(with_reducible show wpAny _ _ (call (Value.ref 83) _) _ _ _);k_dflt (refine' SpecR.use (r_region0 ?y0 _ ?hS) ?B ?F ?X ?N ?k ?T ?hk ?hd ?hu ?_;(case y0=>assumption);(case hS=>assumption);k_extra "us4";(case k=>(k_extra "opq"));k_extra "us5";k_whole);intro G9 e9 d9 od9 h' tk' FG9 U9 S9 R9;(try dsimp only))
  trivial
theorem r_exch0 (hm:σ.marked=false) (l:Led) (hS:St w A σ l) : SpecR w 90 [.ref (A.b 0)] 6 l:=by
  intro p loose mean mg mb dp un gd cn cs a ccd cl outer A₀ base h₀ L m rest s Q E B F X N Tp hk hd hu ret
  revert X;k_fill;intro X
  refine wpAny_call ?_
  k_dflt (refine' enterZ [ofString "buffer"] (l':=[(ofString "buffer",_)]) ?k1 ?k2 ?k3 ?k4 ?k5 ?kA ?kF ?kK ?k6 ?k7 ?k8 ?k9 ?kB ?kL ?_ ?c2 ?c3 ?c4 ?c5;k_extra "ez")
  k_steps
  rename RaisedD _ _ _ _ _ _ _=>R9
  rename Heap.UpToSlots _ _=>U9
  rename SymOk _=>S9
  rename Fr _ _ _ _=>FG9
  refine' raised_on ?K ?F ?hf ?R ?U ?_
  (case K=>exact B')
  (case F=>exact FG9)
  (case hf=>exact rfl)
  (case R=>exact R9)
  (case U=>exact U9)
  intro h9 R8 U8
  exact ret _ _ _ _ h9 _ FG' U8 S9 R8
theorem r_exch1 (hm:σ.marked=true) (e:σ.home 3=-1) (l:Led) (hS:St w A σ l) : SpecR w 90 [.ref (A.b 0)] 6 l:=by
  intro p loose mean mg mb dp un gd cn cs a ccd cl outer A₀ base h₀ L m rest s Q E B F X N Tp hk hd hu ret
  revert X;k_fill;intro X
  refine wpAny_call ?_
  k_dflt (refine' enterZ [ofString "buffer"] (l':=[(ofString "buffer",_)]) ?k1 ?k2 ?k3 ?k4 ?k5 ?kA ?kF ?kK ?k6 ?k7 ?k8 ?k9 ?kB ?kL ?_ ?c2 ?c3 ?c4 ?c5;k_extra "ez")
  k_steps
  rename RaisedD _ _ _ _ _ _ _=>R9
  rename Heap.UpToSlots _ _=>U9
  rename SymOk _=>S9
  rename Fr _ _ _ _=>FG9
  refine' raised_on ?K ?F ?hf ?R ?U ?_
  (case K=>exact B')
  (case F=>exact FG9)
  (case hf=>exact rfl)
  (case R=>exact R9)
  (case U=>exact U9)
  intro h9 R8 U8
  exact ret _ _ _ _ h9 _ FG' U8 S9 R8
theorem e67_2:True:=trivial
end
end Mine
namespace Mine
section
variable {prog:Program} {w:World} {A A₀:Around} {s:Shared} {K:Frag} {L:Addr} {h₀ base h:Heap} {m mg mb:Str→Option Value} {news:Led} {p:Program} {loose:List Str} {mean:ExcName→Option Value} {env:Env} {outer:List Env}
theorem frames_cons (hf:env.frame=some L) : (env::outer).filterMap (·.frame)=L::outer.filterMap (·.frame):=by
  simp only [List.filterMap_cons,hf]
theorem ground_turn (B:Below A₀ base outer h₀) (F:Fr h₀ L h m) (N:News h₀ L h news) (hf:env.frame=some L) (XB:K.In base) (TB:Top p loose mean mg mb base) (D:KtsDicts (outer.filterMap (·.frame)) h₀) :
    KtsDicts ((env::outer).filterMap (·.frame)) (hideAll h (news.map (·.1))) ∧
    ∀ g' L' m' news' h',KtsTurn ((env::outer).filterMap (·.frame)) (hideAll h (news.map (·.1))) g'→Fr g' L' h' m'→News g' L' h' news' →
      ∃ h₀',KtsTurn (outer.filterMap (·.frame)) h₀ h₀'∧Fr h₀' L h' m∧News h₀' L h' news'∧Below A₀ base outer h₀'∧K.In h₀'∧Top p loose mean mg mb h₀'∧KtsDicts (outer.filterMap (·.frame)) h₀':=by
  have nm:∀ b o,h₀.get? b=some o→b ∉ news.map (·.1):=fun b o e q=>by
    refine oe1 (List.mem_map.mp q) ?_;intro p z0;refine oa2 z0 ?_;(try clear z0);intro hp z74;obtain rfl:=z74
    rw [(N p hp).2.2] at e
    cases e
  have st:h₀.StaysIn (hideAll h (news.map (·.1))):=fun b o e=>hideAll_get _ (F.keep b o e) (nm b o e)
  refine oe3 F.ns ?_;intro oL es ep z0;refine oa4 z0 ?_;(try clear z0);intro hL hLd hLk hLf
  have hLg:=hideAll_get (news.map (·.1)) hL fun q=>by
    refine oe1 (List.mem_map.mp q) ?_;intro p z0;refine oa2 z0 ?_;(try clear z0);intro hp e
    exact (N p hp).2.1 e
  have nL₀:h₀.get? L=none:=kts_self F
  refine ⟨fun b hb=>?_,fun g' L' m' news' h' T' F' N'=>?_⟩
  · rw [frames_cons hf] at hb
    rcases List.mem_cons.mp hb with rfl | hb
    · exact ⟨oL,es,ep,hLg,hLd⟩
    · refine oe3 (D b hb) ?_;intro o es' n' z0;refine oa2 z0 ?_;(try clear z0);intro ho' hd'
      exact ⟨o,es',n',st b o ho',hd'⟩
  refine oe1 (T'.up hLg) ?_;intro sl hs
  obtain ⟨T₁,S₁⟩:=kts_turn_at (h:=h') (fs:=outer.filterMap (·.frame)) (g:=h₀)
    (fun b hb=>by
      refine oa2 (B.frames.mem hb) ?_;intro _ z0;refine oe1 z0 ?_;(try clear z0);intro o z1;refine oa2 z1 ?_;(try clear z1);intro ho' _
      exact ⟨o,ho'⟩)
    (fun b o e nmem=>F'.keep b o (T'.other b o (st b o e) fun q=>by
      rcases mem_frames hf q with z | z
      · rw [z,nL₀] at e
        cases e
      · exact nmem z))
    (fun b o e hm=>by
      refine oe1 (T'.up (st b o e)) ?_;intro sl' hs'
      exact ⟨sl',F'.keep _ _ hs'⟩)
  have B₃:Below A₀ base outer (ktsHeap h' (outer.filterMap (·.frame)) h₀):=⟨B.stack,fun b o e=>T₁.other b o (B.stays b o e) (fun hm=>by
    rw [(B.frames.mem hm).1] at e
    cases e),B.frames.of_keeps fun b o e _=>by
    refine oe1 (T₁.up e) ?_;intro sl' hs'
    exact ⟨_,hs',rfl⟩⟩
  refine ⟨_,T₁,⟨⟨_,es,ep,F'.keep _ _ hs,hLd,hLk,hLf⟩,S₁,by rw [T₁.size];exact F.above⟩,fun p hp=>⟨(N' p hp).1,fun q=>?_,?_⟩,B₃,XB.keeps B₃.stays,TB.keeps B₃.stays,D.turn T₁⟩
  · have:=(N' p hp).2.2
    rw [q,hs] at this
    cases this
  · refine T₁.none_ _ ?_
    cases q:h₀.get? p.1 with
    | none=>rfl
    | some o =>
      refine oe1 (T'.up (st _ _ q)) ?_;intro sl' hs'
      have:=(N' p hp).2.2
      rw [hs'] at this
      cases this
theorem enterX (names:List Str) {vs:List Value} {l':List (Str × Value)} {R:Result→Shared→Prop} {name qual:Str} {params:Arguments} {body:List Stmt} {scope:Scope} {dV kV doc pm cdv ct oc:Value} {an od:Option Addr} {osl:Array (Option Value)} {f:Addr}
    (B:Below A₀ base outer h₀) (F:Fr h₀ L s.heap m) (X₀:K.In h₀) (N:News h₀ L s.heap news) (T:Top p loose mean mg mb h₀) (XB:K.In base) (TB:Top p loose mean mg mb base) (D:KtsDicts (outer.filterMap (·.frame)) h₀) (hA:A.frames=some (env::outer)) (hf:env.frame=some L) (hke:env.scope.kind=.function)
    (ho:K.lookup f=some ⟨oc,od,.func (fnOf name qual params body scope dV kV doc pm an cdv ct),osl⟩) (hcd:codeIn K cdv qual=true) (hroom:A.depth<recursionLimit)
    (hbind:bindArgs (fnOf name qual params body scope dV kV doc pm an cdv ct) ⟨vs,[]⟩=pure (names.zip vs)) (hloc:((names.zip vs).all fun x=>decide (scope.names.lookup x.1=some .local))=true) (hl':(names.zip vs).reverse=l')
    (h:∀ g L' h₁ tk (P:Flow→Shared→Prop),(∀ v g' L' m' news' s',KtsTurn ((env::outer).filterMap (·.frame)) g g'→Fr g' L' s'.heap m'→News g' L' s'.heap news'→(∀ h₀',KtsTurn (outer.filterMap (·.frame)) h₀ h₀'→Fr h₀' L s'.heap m→News h₀' L s'.heap news'→Below A₀ base outer h₀'→K.In h₀'→Top p loose mean mg mb h₀'→KtsDicts (outer.filterMap (·.frame)) h₀'→R (.ok (.ret v)) s')→P (.ret v) s') →
      Fr h₀ L g m→Fr g L' h₁ (fun y=>l'.lookup y)→News g L' h₁ news→Below A base (env::outer) g→K.In g→Top p loose mean mg mb g→KtsDicts ((env::outer).filterMap (·.frame)) g →
      wpAny (model prog w) (A.deeper (envOf qual scope L' f cdv)) (execs body (envOf qual scope L' f cdv))
        P
        (fun e s'=>wpAny (model prog w) (A.deeper (envOf qual scope L' f cdv)) (leaving (envOf qual scope L' f cdv) e) (fun _ s''=>R (.error e) s'') (fun e' s''=>R (.error e') s'') s')
        { s with heap:=h₁,toks:=tk })
    (hco:scope.isCoroutine=false) (hgen:scope.isGenerator=false) (hk:scope.kind=.function)
    (hcell:∀ x∈scope.names,x.2≠.cell) : codeAny (model prog w) A (.call (.ref f) ⟨vs,[]⟩) R s:=by
  subst hl'
  have X:=X₀.keeps F.keep
  refine oa4 (groundX (R:=R) B F N hA hf hke) ?_;intro FG BG st z75;obtain-:= z75
  refine oa2 (ground_turn (env:=env) B F N hf XB TB D) ?_;intro DG lv
  refine codeAny_call_def (fd:=fnOf name qual params body scope dV kV doc pm an cdv ct) (body:=body) (binds:=names.zip vs) hroom (X _ _ ho) rfl (T.nolimit.keeps F.keep) (codeRec_of X hcd) rfl (BindsTo.of_eq hbind) hcell (locs hloc) (fun h₁ hns hk₁=>?_) hco hgen hk
  refine wpAny_mono (h _ s.heap.objs.size h₁ _ (fun fl s'=>R (match fl with | .ret v=>.ok (.ret v) | _=>.ok (.ret .none)) s') (fun v g' L' m' news' s' T' F' N' k=>?_) FG ⟨hns,fun b o e=>hk₁ b o (of_hideAll _ e),Nat.le_of_eq (hideAll_size _ _)⟩
    (fun p hp=>⟨hk₁ _ _ (N p hp).1,Nat.ne_of_lt (Heap.lt_size (N p hp).1),hideAll_none _ (List.mem_map_of_mem hp)⟩) BG (X₀.keeps st) (T.keeps st) DG) (fun fl s' hl=>?_) fun _ _ y=>y
  rotate_left
  · cases fl <;> exact hl
  refine oe1 (lv g' L' m' news' s'.heap T' F' N') ?_;intro h₀' z0;refine oa7 z0 ?_;(try clear z0);intro a1 a2 a3 a4 a5 a6 a7
  exact k h₀' a1 a2 a3 a4 a5 a6 a7
end
section
variable {w:World} {A₀:Around} {E:Value→Shared→Prop} {s':Shared} {base g G:Heap} {outer:List Env} {L a e d:Addr} {m:Str→Option Value} {name:Str} {scope:Scope} {cd:Value}
  {n:Str} {b₀:Stmt} {suite:List Stmt} {pos np:Pos} {rest:List ExceptHandler} {Q:Flow→Shared→Prop} {news:Led} {p:Program} {loose:List Str} {mean:ExcName→Option Value} {mg mb:Str→Option Value} {x:Str}
theorem caught_ls {prog:Program} (R:RaisedD base G (envOf name scope L a cd::outer) e d news s'.heap) (F:Fr g L G m) (K:Below A₀ base outer g) (hsm:G.UpToSlots s'.heap) (XB:(Mine.hd.heap_1 w.params).In base) (TB:Top p loose mean mg mb base)
    (D:KtsDicts (outer.filterMap (·.frame)) g) (ex:nsIn (Mine.hd.heap_1 w.params) mainGlobals x=some (some (.ref 38)))
    (k:∀ h' g' oe vs tk,KtsTurn (outer.filterMap (·.frame)) g g'→Fr g' L h' (fun y=>if y=n then some (.ref e) else m y)→News g' L h' ((e,oe)::news)→oe.cls=.ref 38→oe.dict=some d→oe.data=.fields vs→Below A₀ base outer g'→(Mine.hd.heap_1 w.params).In g'→Top p loose mean mg mb g'→KtsDicts (outer.filterMap (·.frame)) g' →
      wpAny (model prog w) ((A₀.deeper (envOf name scope L a cd)).mark (some (.ref e))) (execs (b₀::suite) (envOf name scope L a cd))
        (fun f s₄=>wpAny (model prog w) (A₀.deeper (envOf name scope L a cd)) (do bindName (envOf name scope L a cd) n .none;unbindBehindTheSuite (envOf name scope L a cd) n pos) (fun _ s₅=>Q f s₅) E s₄)
        (AsSuiteRaised (model prog w) ((A₀.deeper (envOf name scope L a cd)).mark (some (.ref e))) (envOf name scope L a cd) n pos (notedBy (model prog w) ((A₀.deeper (envOf name scope L a cd)).mark (some (.ref e))) (envOf name scope L a cd) (cameBackBy (model prog w) (A₀.deeper (envOf name scope L a cd)) (envOf name scope L a cd) E)))
        { s' with heap:=h',toks:=tk })
    (hk:scope.kind=.function:=by rfl) (hlo:(envOf name scope L a cd).kindOf n=some .local:=by rfl) (hx:(envOf name scope L a cd).kindOf x=some .globalImplicit:=by rfl) (hd:(x == ("__debug__" : Str))=false:=by decide) :
    wpAny (model prog w) (A₀.deeper (envOf name scope L a cd)) (noteFrame (.ref e) (envOf name scope L a cd))
      (fun _ s₂=>wpAny (model prog w) (A₀.deeper (envOf name scope L a cd)) (setFlight (.ref e) none) (fun _ s₃ =>
        wpAny (model prog w) (A₀.deeper (envOf name scope L a cd)) (handleBy (.ref e) (envOf name scope L a cd) (.ExceptHandler (some (.Name x np)) (some n) (b₀::suite) pos::rest)) Q E s₃) E s₂) E s':=by
  refine oe1 R ?_;(try clear R);intro B z0;refine oa4 z0 ?_;(try clear z0);intro hB hBG hl hfl
  have hL:B.get? L=none:=by
    refine oa3 hfl.2.2.1 ?_;intro _ z76 _;refine oe2 z76 ?_;(try clear z76);intro L' _ z0;refine oa3 z0 ?_;(try clear z0);intro hf hn' _
    obtain rfl:L=L':=Option.some.inj hf
    exact hn'
  refine fly_note (Around.frames_deeper K.stack) rfl hfl fun h₄ hf₄ hsm₄=>fly_land (s:={ s' with heap:=h₄ }) hf₄ fun h₅ hf₅ hsm₅'=>?_
  have hsm₅:=hsm₄.trans hsm₅'
  refine oe1 (kts_ground K F hBG hf₅.1 (hsm.trans hsm₅)) ?_;intro g₅ z0;refine oa3 z0 ?_;(try clear z0);intro T₅ F₅ K₅
  have X₅:=XB.keeps K₅.stays
  have P₅:TopRead p loose mg mb g₅:=topRead_of (TB.keeps K₅.stays)
  refine oe5 hf₅.2.2.2 ?_;intro ob _ _ _ _ z0;refine oa3 z0 ?_;(try clear z0);intro hob z77 _;refine oa2 z77 ?_;(try clear z77);intro hobc _
  refine oe8 (cls38 w) ?_;intro nm q bs sn sub ab col dd z0;refine oe5 z0 ?_;(try clear z0);intro k0 k1 k2 k3 k5 hC
  have hC₅:=F₅.keep _ _ (X₅ _ _ hC)
  refine wpAny_handleBy_cons (codeAny_handlers_test (name_K F₅ X₅ P₅ ex ?_ hk hx hd)) (by intro q;cases q)
  refine wpAny_excMatches_sub_self hC₅ hob hobc rfl (codeAny_handlers_suite_as ?_)
  refine fly_land (s:={ s' with heap:=h₅ }) hf₅ fun h₆ hf₆ hsm₆=>?_
  refine oe1 (kts_ground K F hBG hf₆.1 ((hsm.trans hsm₅).trans hsm₆)) ?_;intro g₆ z0;refine oa3 z0 ?_;(try clear z0);intro T₆ F₆ K₆
  refine oe5 hf₆.2.2.2 ?_;intro oe vs _ _ _ z0;refine oa4 z0 ?_;(try clear z0);intro hoe z78 hoef _;refine oa2 z78 ?_;(try clear z78);intro hoec hoed
  have ne₆:g₆.get? e=none:=T₆.none_ _ (kts_fresh F hBG hf₆.2.1 fun o ho m=>by
    refine oa2 (K.frames.mem m) ?_;intro _ z0;refine oe1 z0 ?_;(try clear z0);intro o' z1;refine oa2 z1 ?_;(try clear z1);intro ho' hd
    rw [ho] at ho'
    cases ho'
    refine oe1 (((hsm.trans hsm₅).trans hsm₆) _ _ (F.keep _ _ ho) hd) ?_;intro sl hs
    rw [hoe] at hs
    cases hs
    exact hd _ hoef)
  have hLe:e≠L:=fun z=>by
    refine oe3 F₆.ns ?_;intro oL _ _ z0;refine oa3 z0 ?_;(try clear z0);intro h1 h2 _
    rw [← z,hoe] at h1
    cases h1
    rw [hoef] at h2
    cases h2
  have N₆:News g₆ L h₆ ((e,oe)::news):=fun q hq=>by
    rcases List.mem_cons.mp hq with rfl | hq
    · exact ⟨hoe,hLe,ne₆⟩
    · exact ⟨hf₆.1 _ _ (hl q hq).1,(fun z=>by have:=(hl q hq).1;rw [z,hL] at this;cases this),T₆.none_ _ (kts_none F.keep (hl q hq).2.1)⟩
  have X₆:=XB.keeps K₆.stays
  have P₆:Top p loose mean mg mb g₆:=TB.keeps K₆.stays
  exact stN F₆ N₆ (fun h₇ F₇ N₇=>k h₇ g₆ oe vs _ T₆ F₇ N₇ hoec hoed hoef K₆ X₆ P₆ (D.turn T₆)) hk hlo
end
end Mine
namespace Mine
theorem callWith_fnN {A:Around} {M:Model} {E:Value→Shared→Prop} {s:Shared} {env:Env} {pos:Pos} {f:Addr} {o:Obj} {fd:FuncData} {first:List Value} {Q:Value→Shared→Prop} {h₀:Heap} {L:Addr} {news:Led} (N:News h₀ L s.heap news) (hm:(f,o)∈news) (hd:o.data=.func fd)
    (h:wpAny M A (call (.ref f) first) Q E s) : wpAny M A (callWith pos (.ref f) first (backTo pos (starEach [] env)) []) Q E s:=callWith_meth0 hd (N _ hm).1 h
theorem xc_sym {prog:Program} {w:World} {A0:Around} {E:Value→Shared→Prop} {s:Shared} {h₀:Heap} {L e d:Addr} {m:Str→Option Value} {news:Led} {oe od:Obj} {vs:Array Value} {Q:Value→Shared→Prop} {expr:Bool} (F:Fr h₀ L s.heap m) (X:(Mine.hd.heap_1 w.params).In h₀) (N:News h₀ L s.heap ((e,oe)::(d,od)::news))
    (hc:oe.cls=.ref 38) (hd:oe.dict=some d) (hf:oe.data=.fields vs) (hO:SymOk od) (h:∀ t,Q (.str (ofString "error") t) { s with toks:=s.toks+1 }) : wpAny (model prog w) A0 (getAttr (.ref e) (ofString "symbol") expr) Q E s:=by
  refine oe8 (cls38 w) ?_;intro nm q bs sn sub ab col dd z0;refine oe5 z0 ?_;(try clear z0);intro k0 k1 k2 k3 k5 hC
  refine oe1 (ns37 (X.keeps F.keep)) ?_;intro mN z0;refine oa7 z0 ?_;(try clear z0);intro hn z79 hs z80 z81 hg hh;obtain-:= z79;obtain-:= z80;obtain-:= z81
  refine oe3 hO ?_;(try clear hO);intro es ep t z0;refine oa3 z0 ?_;(try clear z0);intro hod hk hf2
  obtain ⟨hp,g,dr,tk,os⟩:=s
  exact xc_get PySem.F.attrBase_Exception (X.keeps F.keep _ _ hC) hn hg hh hs xl_symbol (N _ (.head _)).1 hc (fun c z=>by rw [hf] at z;cases z) hd ⟨od,es,ep,(N _ (.tail _ (.head _))).1,hod,hk,fun _=>rfl⟩ hf2 rfl (h t)
section
variable {w:World} {fn:Addr} {dz:Nat} {led rest:Led}
theorem kw69_1:True:=by
  k_with "callWith ref" => ((fail_if_success have:=@e69_1);k_here;(with_reducible show wpAny _ _ (callWith _ (Value.ref _) [] (backTo _ (starEach [] _)) []) _ _ _);k_dflt (refine' callWith_fnN ?N ?m ?d ?_;(case N=>k_asm);(case m=>first | k_mem | (refine List.mem_append.mpr (.inl ?_);assumption));(case d=>assumption);k_whole))
  k_with "call ref" => ((fail_if_success have:=@e69_1);k_here;(with_reducible show wpAny _ _ (call (Value.ref _) []) _ _ _);k_dflt (refine' SpecR.use ?S ?B ?F ?X ?N ?k ?T ?hk ?hd ?hu ?_;(case S=>assumption);k_extra "us4";(case k=>(k_extra "opq"));k_extra "us5";k_whole);intro G9 e9 d9 od9 h' tk' FG9 U9 S9 R9;(try dsimp only))
  k_with "noteFrame ref" => ((fail_if_success have:=@e69_1);k_here;k_dflt (refine' caught_ls ?R ?F ?K ?U ?XB ?TB ?D ?ex ?_;(case R=>assumption);(case K=>assumption);(case F=>assumption);(case U=>assumption);(case XB=>assumption);(case TB=>assumption);(case D=>assumption);(case ex=>exact rfl);k_whole);intro h' g' oe9 vs9 tk' T9 F' N' c9 dd9 dt9 K' X' P' D';(try dsimp only))
  k_with "getAttr ref" => ((fail_if_success have:=@e69_1);k_here;(with_reducible show wpAny _ _ (getAttr (Value.ref _) (ofString "symbol") _) _ _ _);k_dflt (refine' xc_sym ?F ?X ?N ?c ?d ?f ?O ?_;(case F=>k_asm);(case X=>k_asm);(case N=>k_asm);(case c=>assumption);(case d=>assumption);(case f=>assumption);(case O=>assumption));intro t9;k_whole)
  trivial
end
section
namespace Z2
theorem c_x_refused:∀ rest,P_x_refused w (k6 13) (k12 6) (k22 3) (k16 6) (k40 0) p loose mean mg mb dp un gd cn cs a ccd cl outer A₀ base h₀ L m s Q E rest:=by
  intro rest S hfn hfo B F X N Tp XB TB D hk hd hu ret
  revert X;k_fill;intro X
  refine wpAny_call ?_
  k_dflt (refine' enterX [ofString "deed"] (l':=[(ofString "deed",_)]) ?k1 ?k2 ?k3 ?k4 ?k5 ?XB ?TB ?D ?kA ?kF ?kK ?k6 ?k7 ?k8 ?k9 ?kB ?kL ?_ ?c2 ?c3 ?c4 ?c5;(case kA=>exact rfl);(case kF=>exact rfl);(case kK=>assumption);(case k1=>k_asm);(case k2=>k_asm);(case k3=>k_asm);(case k4=>k_asm);(case k5=>k_asm);(case XB=>assumption);(case TB=>assumption);(case D=>assumption);(case k6=>k_is);(case k7=>k_is);(case k8=>ktr_room);(case k9=>exact rfl);(case c5=>decide);(case kB=>exact rfl);(case kL=>exact rfl);(case c2=>exact rfl);(case c3=>exact rfl);(case c4=>exact rfl);k_whole;intro g' L' h' tk' P' leave9 FG' F' N' B' X' T' D';(try dsimp only);(try k_fold))
  k_steps
  rename KtsTurn _ _ _=>T9
  rename Fr _ _ _ _=>F9
  rename News _ _ _ _=>N9
  rw [show (ofString "error" == ofString "error")=true from by decide]
  exact leave9 _ _ _ _ _ _ T9 F9 N9 fun h₀' a1 a2 a3 a4 a5 a6 a7=>ret h₀' _ _ a1 a2 (News.sub a3 fun q hq=>.tail _ (.tail _ hq)) a4 a5 a6 a7
end Z2
theorem h_45:∀ j,j<45→∀ u,Pf j u:=histS 44 h_44 (gen 44 h_44 (by with_unfolding_all exact Z2.c_x_refused))
theorem x_refused {w:World} {fn:Addr} {dz:Nat} {led rest:Led} {fo:Obj} {fd:FuncData} {p:Program} {loose:List Str} {mean:ExcName→Option Value} {mg mb:Str→Option Value} {dp un:Nat} {gd:Option (List Code)} {cn:Str} {cs:Scope} {a:Addr} {ccd:Value} {cl:List (Prod Str Addr)} {outer:List Env} {A₀:Around} {base h₀:Heap} {L:Addr} {m:Str→Option Value} {s:Shared} {Q E:Value→Shared→Prop} : P_x_refused w fn dz led fo fd p loose mean mg mb dp un gd cn cs a ccd cl outer A₀ base h₀ L m s Q E rest:=by with_unfolding_all exact h_45 44 (Nat.lt_succ_self 44) (sk0 |>.set 1 0 w |>.set 6 13 fn |>.set 12 6 dz |>.set 22 3 led |>.set 16 6 fo |>.set 40 0 fd |>.set 0 1 p |>.set 35 1 loose |>.set 41 0 mean |>.set 7 4 mg |>.set 7 5 mb |>.set 12 7 dp |>.set 12 8 un |>.set 42 0 gd |>.set 19 5 cn |>.set 43 0 cs |>.set 6 14 a |>.set 10 22 ccd |>.set 44 0 cl |>.set 45 0 outer |>.set 2 2 A₀ |>.set 5 2 base |>.set 5 0 h₀ |>.set 6 0 L |>.set 7 0 m |>.set 4 0 s |>.set 3 1 Q |>.set 3 0 E) rest
theorem e69_1:True:=trivial
end
end Mine
namespace Mine
section
variable {prog:Program} {w:World} {A A₀:Around} {s:Shared} {K:Frag} {L:Addr} {h₀ base h:Heap} {m mg mb:Str→Option Value} {news:Led} {p:Program} {loose:List Str} {mean:ExcName→Option Value} {env:Env} {outer:List Env}
end
section
namespace Z2
theorem c_enterXC:∀ f,P_enterXC prog w A A₀ s (k46 0) L h₀ base m mg mb news p loose mean env outer m' (k7 7) (k47 0) (k48 0) R (k19 4) (k19 6) (k50 0) (k20 0) (k43 1) (k10 23) (k10 24) (k10 25) (k10 26) (k10 27) (k10 7) (k10 28) (k37 1) (k37 2) (k51 0) f:=by
  intro f B F X₀ N T XB TB D hA hf hke ho hcd hroom hbind hkind hnd hm' hcm' h hco hgen hk
  have X:=X₀.keeps F.keep
  refine oa4 (groundX (R:=R) B F N hA hf hke) ?_;intro FG BG st z82;obtain-:= z82
  refine oa2 (ground_turn (env:=env) B F N hf XB TB D) ?_;intro DG lv
  refine codeAny_call_function hroom (X _ _ ho) rfl hco hgen rfl (codeRec_of X hcd) (hbind _ _ _ _ ?_)
  refine wpAny_newFunctionEnv_cells hk (kindsX hkind _) fun env' he s' x=>?_
  subst he
  refine ⟨(T.nolimit.keeps F.keep).keeps x.toInCall.keep,codeAny_func ?_⟩
  refine oe2 x.done ?_;intro h₁ tk z0;refine oa2 z0 ?_;(try clear z0);intro z83 _;obtain rfl:=z83
  have hk₁:=x.toInCall.keep
  obtain ⟨cells,NC,Y⟩:=Cl.news (h₀:=s.heap) (Nat.le_refl _) fun n c hm=>⟨x.cell n c (lookup_of_mem_nodup (cellsFrom_names (k43 1).names 0 (s.heap.objs.size+1) [] [] rfl ▸ hnd) hm),x.above n c hm⟩
  refine wpAny_mono (h _ s.heap.objs.size h₁ tk cells (fun fl s'=>R (match fl with | .ret v=>.ok (.ret v) | _=>.ok (.ret .none)) s') (fun v g' L' m' news' s' T' F' N' k=>?_) FG (hm' _ ▸ ⟨x.toInCall.ns,fun b o e=>hk₁ b o (of_hideAll _ e),Nat.le_of_eq (hideAll_size _ _)⟩) (fun p hp=>?_) (hcm' _ ▸ Y) BG (X₀.keeps st) (T.keeps st) DG (fun p hp=>Heap.lt_size (N p hp).1)) (fun fl s' hl=>?_) fun _ _ y=>y
  · refine oe1 (lv g' L' m' news' s'.heap T' F' N') ?_;intro h₀' z0;refine oa7 z0 ?_;(try clear z0);intro a1 a2 a3 a4 a5 a6 a7
    exact k h₀' a1 a2 a3 a4 a5 a6 a7
  · rcases List.mem_append.mp hp with hp | hp
    · refine ⟨(NC p hp).1,(NC p hp).2.1,?_⟩
      cases q:(hideAll s.heap (news.map (·.1))).get? p.1 with
      | none=>rfl
      | some o=>have:=of_hideAll _ q;rw [(NC p hp).2.2] at this;cases this
    · exact ⟨hk₁ _ _ (N p hp).1,Nat.ne_of_lt (Heap.lt_size (N p hp).1),hideAll_none _ (List.mem_map_of_mem hp)⟩
  · cases fl <;> exact hl
end Z2
theorem h_46:∀ j,j<46→∀ u,Pf j u:=histS 45 h_45 (gen 45 h_45 (by with_unfolding_all exact Z2.c_enterXC))
theorem enterXC {prog:Program} {w:World} {A A₀:Around} {s:Shared} {K:PySem.W.Frag} {L:Addr} {h₀ base:Heap} {m mg mb:Str→Option Value} {news:Led} {p:Program} {loose:List Str} {mean:ExcName→Option Value} {env:Env} {outer:List Env} {m' cm':Str→Option Value} {binds:List (Prod Str Value)} {args:Args} {R:Result→Shared→Prop} {name qual:Str} {params:Arguments} {body:List PySem.Stmt} {scope:Scope} {dV kV doc pm cdv ct oc:Value} {an od:Option Addr} {osl:Array (Option Value)} {f:Addr} : P_enterXC prog w A A₀ s K L h₀ base m mg mb news p loose mean env outer m' cm' binds args R name qual params body scope dV kV doc pm cdv ct oc an od osl f:=by with_unfolding_all exact h_46 45 (Nat.lt_succ_self 45) (sk0 |>.set 0 0 prog |>.set 1 0 w |>.set 2 0 A |>.set 2 2 A₀ |>.set 4 0 s |>.set 46 0 K |>.set 6 0 L |>.set 5 0 h₀ |>.set 5 2 base |>.set 7 0 m |>.set 7 4 mg |>.set 7 5 mb |>.set 22 2 news |>.set 0 1 p |>.set 35 1 loose |>.set 41 0 mean |>.set 18 0 env |>.set 45 0 outer |>.set 7 6 m' |>.set 7 7 cm' |>.set 47 0 binds |>.set 48 0 args |>.set 49 0 R |>.set 19 4 name |>.set 19 6 qual |>.set 50 0 params |>.set 20 0 body |>.set 43 1 scope |>.set 10 23 dV |>.set 10 24 kV |>.set 10 25 doc |>.set 10 26 pm |>.set 10 27 cdv |>.set 10 7 ct |>.set 10 28 oc |>.set 37 1 an |>.set 37 2 od |>.set 51 0 osl) f
end
end Mine
namespace Mine
section
variable {M:Model} {A:Around} {E:Value→Shared→Prop} {s:Shared} {h₀:Heap} {L a:Addr} {m:Str→Option Value} {cn:Str} {cs:Scope} {ccd:Value} {x:Str} {pos:Pos} {v:Value} {Q:Value→Shared→Prop} {news:Led} {c:Addr} {o:Obj}
theorem nameC_L (F:Fr h₀ L s.heap m) (hv:m x=some v) (h:Q v s) (hk:cs.kind=.function:=by rfl) (hx:(envOfC cn cs L a ccd).kindOf x=some .local:=by rfl) (hd:(x == ("__debug__" : Str))=false:=by decide) :
    wpAny M A (eval (.Name x pos) (envOfC cn cs L a ccd)) Q E s:=nameX_L (cl:=cellsFrom (L+1) cs.names []) F hv h hk hx hd
theorem nameC_C (N:News h₀ L s.heap news) (hc:(cellsFrom (L+1) cs.names []).lookup x=some c) (hm:(c,o)∈news) (hd:o.data=.cell (some v)) (h:Q v s)
    (hk:cs.kind=.function:=by rfl) (hx:(envOfC cn cs L a ccd).kindOf x=some .cell:=by rfl) (hb:(x == ("__debug__" : Str))=false:=by decide) :
    wpAny M A (eval (.Name x pos) (envOfC cn cs L a ccd)) Q E s:=nameX_C (cl:=cellsFrom (L+1) cs.names []) N hc hm hd h hk hx hb
end
end Mine
namespace Mine
theorem dec {i n:Nat} (h:i<n) : n+1-(i+1)<n+1-i:=Nat.sub_lt_sub_left (Nat.lt_succ_of_lt h) (Nat.lt_succ_self _)
section
variable {prog:Program} {w:World} {A:Around} {E:Value→Shared→Prop} {s:Shared} {env:Env} {h₀:Heap} {target:Expr} {body:List Stmt} {Q:Flow→Shared→Prop}
end
section
namespace Z2
theorem c_loopX:∀ St J,P_loopX prog w A s env h₀ (k8 2) (k20 0) (k52 0) R (k6 15) fp wr n (k54 0) (k54 1) m news St J:=by
  intro St J W hLf hC hfp hnw hst F N h0 step hR
  have hLw:env.locals ∉ wr:=fun h=>hLf (W.sub _ h)
  refine codeAny_forLoop_any
    (fun k s'=>∃ h₀ h' tk m' news' i,(k52 0) h₀∧s'={ s with heap:=h',toks:=tk }∧St i h'∧Fr h₀ env.locals h' m'∧News h₀ env.locals h' news'∧(∀ p∈news',p.1 ∉ wr)∧J i m' news'∧i≤n∧k=n+1-i) ?_ (n+1)
    ⟨h₀,s.heap,s.toks,m,news,0,hC,rfl,hst,F,N,hnw,h0,Nat.zero_le _,rfl⟩
  rintro k s' ⟨h₀,h',tk,m',news',i,hC,rfl,hst',F',N',hnw',hJ,hi,rfl⟩
  have old:∀ b o,h₀.get? b=some o→b ∉ wr:=fun b o e hb=>by rw [hfp _ hC b (W.sub _ hb)] at e;cases e
  have next:∀ h₁:Heap,(∀ b o,b ∉ wr→h'.get? b=some o→h₁.get? b=some o)→Fr h₀ env.locals h₁ m'∧News h₀ env.locals h₁ news':=fun h₁ hk₁ =>
    ⟨⟨F'.ns.at' fun o e=>hk₁ _ o hLw e,fun b o e=>hk₁ b o (old b o e) (F'.keep b o e),F'.above⟩,fun p hp=>⟨hk₁ _ _ (hnw' p hp) (N' p hp).1,(N' p hp).2⟩⟩
  by_cases hlt:i<n
  · refine W.item i _ _ _ hlt hst' fun v h₁ tk₁ hMd hk₁=>?_
    refine W.go i v _ _ _ hMd fun h₂ hP hst₂ hk₂=>?_
    refine oa2 (next h₂ fun b o hb x=>hk₂ b o hb (hk₁ b o hb x)) ?_;intro F₂ N₂
    have Nown:News h₀ env.locals h₂ (PyProof.Rows.ownOf h₀ fp h₂):=news_ownOf hLf
    refine wpAny_mono (step i v h₀ m' news' h₂ tk₁ (PyProof.Rows.ownOf h₀ fp h₂) hC hlt hP hJ hnw' ownOf_sub (fun b hb o e=>mem_ownOf hb (hfp _ hC b hb) e) hst₂ F₂ (Nown.append N₂)) (fun _ s₂ h₂'=>wpAny_mono h₂' (fun f s₃ h₃=>?_) fun _ _ e=>e) fun _ _ e=>e
    refine oa2 h₃ ?_;(try clear h₃);intro z84 z0;obtain rfl:=z84;refine oe5 z0 ?_;(try clear z0);intro h₀' h₃' tk₃ m₂ news₂ z1;refine oa6 z1 ?_;(try clear z1);intro hC' z85 F₃ N₃ ha₃ hJ₃;obtain rfl:=z85
    refine ⟨n+1-(i+1),dec hlt,h₀',h₃',tk₃,m₂,news₂,i+1,hC',rfl,?_,F₃,fun q hq=>N₃ q (List.mem_append_right _ hq),ha₃,hJ₃,hlt,rfl⟩
    exact W.frame _ _ _ hst₂ fun b hb o e=>(N₃ _ (List.mem_append_left _ (mem_ownOf hb (hfp _ hC b hb) e))).1
  · have hin:i=n:=by omega
    subst hin
    refine W.done _ _ _ hst' fun h₁ tk₁ hk₁=>wpAny_execs_nil ?_
    refine oa2 (next h₁ hk₁) ?_;intro F₁ N₁
    exact hR h₀ h₁ tk₁ m' news' hC F₁ N₁ hJ
end Z2
theorem h_47:∀ j,j<47→∀ u,Pf j u:=histS 46 h_46 (gen 46 h_46 (by with_unfolding_all exact Z2.c_loopX))
theorem loopX {prog:Program} {w:World} {A:Around} {s:Shared} {env:Env} {h₀:Heap} {target:PySem.Expr} {body:List PySem.Stmt} (C:Heap→Prop) {R:Result→Shared→Prop} {I:Addr} {fp wr:List Addr} {n:Nat} {P Md:Nat→Value→Heap→Prop} {St:Nat→Heap→Prop} {m:Str→Option Value} {news:Led} (W:KTurns prog w A target I fp wr n P Md St) (hLf:env.locals ∉ fp) (hC:C h₀) (hfp:∀ h₀,C h₀→∀ b∈fp,h₀.get? b=none) (hnw:∀ p∈news,p.1 ∉ wr) (hst:St 0 s.heap) (F:Fr h₀ env.locals s.heap m) (N:News h₀ env.locals s.heap news) (J:Nat→(Str→Option Value)→Led→Prop) (h0:J 0 m news) (step:∀ i v h₀ m₁ news₁ h₁ tk₁ own,C h₀→i<n→P i v h₁→J i m₁ news₁→(∀ p∈news₁,p.1 ∉ wr)→(∀ p∈own,p.1∈fp)→(∀ b∈fp,∀ o,h₁.get? b=some o→(b,o)∈own)→St (i+1) h₁ →
      Fr h₀ env.locals h₁ m₁→News h₀ env.locals h₁ (own++news₁) →
      wpAny (model prog w) A (assign target env v) (fun _ s₂=>wpAny (model prog w) A (execs body env)
        (fun fl s'=>fl=.next∧∃ h₀' h' tk m' news',C h₀'∧s'={ s with heap:=h',toks:=tk }∧Fr h₀' env.locals h' m'∧News h₀' env.locals h' (own++news')∧(∀ p∈news',p.1 ∉ wr)∧J (i+1) m' news') (notedBy (model prog w) A env fun e s'=>R (.error e) s') s₂) (notedBy (model prog w) A env fun e s'=>R (.error e) s') { s with heap:=h₁,toks:=tk₁ }) (hR:∀ h₀' h' tk m' news',C h₀'→Fr h₀' env.locals h' m'→News h₀' env.locals h' news'→J n m' news'→R (.ok .next) { s with heap:=h',toks:=tk }) : codeAny (model prog w) A (.forLoop target (.ref I) body [] env) R s:=by with_unfolding_all exact h_47 46 (Nat.lt_succ_self 46) (sk0 |>.set 0 0 prog |>.set 1 0 w |>.set 2 0 A |>.set 4 0 s |>.set 18 0 env |>.set 5 0 h₀ |>.set 8 2 target |>.set 20 0 body |>.set 52 0 C |>.set 49 0 R |>.set 6 15 I |>.set 53 0 fp |>.set 53 1 wr |>.set 12 0 n |>.set 54 0 P |>.set 54 1 Md |>.set 7 0 m |>.set 22 2 news) St J W hLf hC hfp hnw hst F N h0 step hR
end
section
variable {prog:Program} {w:World} {A:Around} {E:Value→Shared→Prop} {s:Shared} {env:Env} {h₀:Heap} {target:Expr} {body:List Stmt} {Q:Flow→Shared→Prop}
theorem For_X {iter:Expr} {pos:Pos}
    (h:wpAny (model prog w) A (eval iter env) (fun xv s₁=>wpAny (model prog w) A (pyIter xv) (fun it s₂=>LoopsX prog w A env target body Q E it s₂) E s₁) E s)
    (hs:∀ x,foldedSetIterable iter env x=pure x:=by intro _;rfl)
    (hE:PassesOwn (model prog w) A env E:=by passes_own) :
    wpAny (model prog w) A (exec (.For target iter body [] pos) env) Q E s:=by
  refine wpAny_For (wpAny_mono h (fun xv s₁ h₁=>wpAny_mono h₁ (fun it s₂ h₂=>?_) fun _ _ e=>e) fun _ _ e=>e) hs
  obtain ⟨C,h₀,I,fp,wr,n,P,Md,St,m,news,J,rfl,W,hLf,hC,hfp,hnw,hst,F,N,h0,step,hQ⟩:=h₂
  exact loopX C (R:=fun r s'=>match r with | .ok f=>Q f s' | .error e=>cameBackBy (model prog w) A env E e s') W hLf hC hfp hnw hst F N J h0
    (fun i v h₀ m₁ news₁ h₁ tk₁ own a b c d e f g st F₁ N₁=>wpAny_mono (step i v h₀ m₁ news₁ h₁ tk₁ own a b c d e f g st F₁ N₁) (fun _ _ x=>wpAny_passesOwn hE x) hE) hQ
end
end Mine
namespace Mine
theorem triples_snoc {a b c:Value} (ha:∃ n t,a=.int n t) (hb:∃ n t,b=.int n t) (l:List Value) (h:TriplesOk l) : TriplesOk (l++[a,b,c]):=by
  refine oe2 ha ?_;(try clear ha);intro n t z86;obtain rfl:=z86
  refine oe2 hb ?_;(try clear hb);intro n2 t2 z87;obtain rfl:=z87
  fun_induction TriplesOk l with
  | case1=>simp [TriplesOk]
  | case2 _ _ _ _ _ _ ih=>exact ih h
  | case3=>cases h
theorem among_snoc {pos pos':Pos} {c v:Value} (l:List Value) (h:TriplesOk l) (e:codeAmong pos' (l++[rawInt pos.line,rawInt pos.col,c])=some v) : codeAmong pos' l=some v∨v=c:=by
  fun_induction TriplesOk l with
  | case1 =>
    simp only [List.nil_append,rawInt,codeAmong] at e
    split at e
    · exact .inr (Option.some.inj e).symm
    · cases e
  | case2 a b c' d f rest ih =>
    simp only [List.cons_append,codeAmong] at e ⊢
    split at e
    · rename_i z
      rw [if_pos z]
      exact .inl e
    · rename_i z
      rw [if_neg z]
      exact ih h e
  | case3=>cases h
theorem TabL.nil {P:Addr} {qual:Str} : TabL P qual [(P,tabObj #[])]:=⟨#[],[],rfl,trivial,(fun _ h=>nomatch h),fun pos v e=>by cases e⟩
section
variable {M:Model} {A:Around} {E:Value→Shared→Prop} {s:Shared} {h₀:Heap} {L a c P:Addr} {m mg mb:Str→Option Value} {cn:Str} {cs:Scope} {ccd:Value} {cl:List (Str × Addr)} {rest Tl:Led} {p:Program} {loose:List Str} {mean:ExcName→Option Value}
  {name qual:Str} {params:Arguments} {body:Expr} {scope:Scope} {pos:Pos} {firstLine:Nat} {clos:List (Str × Addr)}
end
section
namespace Z2
theorem c_lam_make:∀ c P rest Tl body,P_lam_make (k55 0) A E s h₀ L a m mg mb cn cs ccd cl p loose mean (k19 4) (k19 6) (k50 0) (k43 1) (k56 0) (k12 9) (k44 1) Q c P rest Tl body:=by
  intro c P rest Tl body F N T C hcd hT hr hcl h
  refine oe2 hT ?_;(try clear hT);intro ps codes z0;refine oa4 z0 ?_;(try clear z0);intro z88 ht hcP hall;obtain rfl:=z88
  cases hf:codeAmong (k56 0) ps.toList with
  | some v =>
    obtain ⟨c',oc,vs,t,rfl,hm,hd,hv⟩:=hall (k56 0) v hf
    refine kla_hit F N T C hcd (.head _) ht hf hcl fun f ctv h' tk F' N' l1=>h f c' ctv _ _ h' tk ⟨ps,codes,rfl,ht,hcP,hall⟩ F' N' ⟨oc,vs,t,.tail _ hm,hd,hv⟩ l1 fun q hq=>.inl (List.mem_map.mpr ⟨q,hq,rfl⟩)
  | none =>
    have U:UpdF P (tabObj ps) ((P,tabObj ps)::(codes++rest)) fun o'=>(P,o')::(codes++rest):=UpdF.head fun q hq=>(List.mem_append.mp hq).elim (hcP q) (hr q)
    refine kla_nest F N T C hcd U ht hf hcl fun f c' oc vs t ctv h' tk F' N' hd hv l1 l2=>?_
    have hcP':c'≠P:=fun z=>absurd (l1 _ (.head _)) (by rw [z];exact Nat.lt_irrefl _)
    refine h f c' ctv ((mg (ofString "__name__")).getD .none) ((P,tabObj (ps++#[rawInt (k56 0).line,rawInt (k56 0).col,.ref c']))::(c',oc)::codes) h' tk ⟨_,(c',oc)::codes,rfl,?_,?_,?_⟩ F' (News.sub N' fun q hq=>?_) ⟨oc,vs,t,.tail _ (.head _),hd,hv⟩ (fun q hq=>Nat.lt_trans (l1 q hq) l2) fun q hq=>?_
    · rw [Array.toList_append]
      exact triples_snoc ⟨_,_,rfl⟩ ⟨_,_,rfl⟩ _ ht
    · intro q hq
      rcases List.mem_cons.mp hq with rfl | hq
      · exact hcP'
      · exact hcP q hq
    · intro pos' v e
      rw [Array.toList_append] at e
      rcases among_snoc _ ht e with e | rfl
      · refine oe4 (hall pos' v e) ?_;intro c2 oc2 vs2 t2 z0;refine oa3 z0 ?_;(try clear z0);intro e2 hm r
        exact ⟨c2,oc2,vs2,t2,e2,.tail _ hm,r⟩
      · exact ⟨c',oc,vs,t,rfl,.head _,hd,hv⟩
    · simp only [List.mem_cons,List.mem_append,List.cons_append] at hq ⊢
      rcases hq with h | h | h | h | h
      · exact .inl h
      · exact .inr (.inr (.inl h))
      · exact .inr (.inl h)
      · exact .inr (.inr (.inr (.inl h)))
      · exact .inr (.inr (.inr (.inr h)))
    · rcases List.mem_cons.mp hq with rfl | hq
      · exact .inl (.head _)
      · rcases List.mem_cons.mp hq with rfl | hq
        · exact .inr l1
        · exact .inl (.tail _ (List.mem_map.mpr ⟨q,hq,rfl⟩))
end Z2
theorem h_48:∀ j,j<48→∀ u,Pf j u:=histS 47 h_47 (gen 47 h_47 (by with_unfolding_all exact Z2.c_lam_make))
theorem lam_make {M:Model} {A:Around} {E:Value→Shared→Prop} {s:Shared} {h₀:Heap} {L a c P:Addr} {m mg mb:Str→Option Value} {cn:Str} {cs:Scope} {ccd:Value} {cl:List (Prod Str Addr)} {rest Tl:Led} {p:Program} {loose:List Str} {mean:ExcName→Option Value} {name qual:Str} {params:Arguments} {body:PySem.Expr} {scope:Scope} {pos:Pos} {firstLine:Nat} {clos:List (Prod Str Addr)} {Q:Value→Shared→Prop} : P_lam_make M A E s h₀ L a m mg mb cn cs ccd cl p loose mean name qual params scope pos firstLine clos Q c P rest Tl body:=by with_unfolding_all exact h_48 47 (Nat.lt_succ_self 47) (sk0 |>.set 55 0 M |>.set 2 0 A |>.set 3 0 E |>.set 4 0 s |>.set 5 0 h₀ |>.set 6 0 L |>.set 6 14 a |>.set 7 0 m |>.set 7 4 mg |>.set 7 5 mb |>.set 19 5 cn |>.set 43 0 cs |>.set 10 22 ccd |>.set 44 0 cl |>.set 0 1 p |>.set 35 1 loose |>.set 41 0 mean |>.set 19 4 name |>.set 19 6 qual |>.set 50 0 params |>.set 43 1 scope |>.set 56 0 pos |>.set 12 9 firstLine |>.set 44 1 clos |>.set 3 1 Q) c P rest Tl body
end
end Mine
namespace Mine
theorem zip_apart {I l1 l2:Nat} (h1:l1<I) (h2:l2<I) : ZipApart (I+4) (I+2) (I+3) I (I+1) l1 l2:=by
  have n:∀ {a b:Nat},a<b∨b<a→@Ne Addr a b:=fun h e=>by
    rcases h with h | h <;> exact absurd h (by rw [show _=_ from e];exact Nat.lt_irrefl _)
  constructor <;> exact n (by omega)
theorem zin {S l1 l2 b:Nat} (h:b∈([S+4,S+2,S+3,S,S+1,l1,l2] : List Nat)) : (∃ k,b=S+k∧k≤4)∨b=l1∨b=l2:=by
  rcases List.mem_cons.mp h with h | h
  · exact .inl ⟨4,h,by decide⟩
  rcases List.mem_cons.mp h with h | h
  · exact .inl ⟨2,h,by decide⟩
  rcases List.mem_cons.mp h with h | h
  · exact .inl ⟨3,h,by decide⟩
  rcases List.mem_cons.mp h with h | h
  · exact .inl ⟨0,h,by decide⟩
  rcases List.mem_cons.mp h with h | h
  · exact .inl ⟨1,h,by decide⟩
  rcases List.mem_cons.mp h with h | h
  · exact .inr (.inl h)
  · exact .inr (.inr (List.mem_singleton.mp h))
theorem zwr {S b:Nat} (h:b∈([S+4,S+3,S,S+1] : List Nat)) : S≤b∧b≤S+4:=by
  rcases zin (l1:=S) (l2:=S) (sbi h (by k_extra "sb")) with ⟨k,rfl,hk⟩ | rfl | rfl
  · exact ⟨Nat.le_add_right _ _,Nat.add_le_add_left hk _⟩
  · exact ⟨Nat.le_refl _,Nat.le_add_right _ _⟩
  · exact ⟨Nat.le_refl _,Nat.le_add_right _ _⟩
theorem five {P:Nat→Prop} {I b:Nat} (h1:b<I+5) (h2:I≤b) (p0:P I) (p1:P (I+1)) (p2:P (I+2)) (p3:P (I+3)) (p4:P (I+4)) : P b:=by
  obtain ⟨k,rfl⟩:=Nat.exists_eq_add_of_le h2
  have:k<5:=Nat.lt_of_add_lt_add_left h1
  match k,this with
  | 0,_=>exact p0
  | 1,_=>exact p1
  | 2,_=>exact p2
  | 3,_=>exact p3
  | 4,_=>exact p4
section
variable {prog:Program} {w:World} {A:Around} {E:Value→Shared→Prop} {s:Shared} {env:Env} {h₀:Heap} {body:List Stmt} {Q:Flow→Shared→Prop}
end
section
namespace Z2
theorem c_zipX:∀ Q,P_zipX prog w A E s env h₀ (k20 0) (k57 0) (k12 10) (k56 0) l1 l2 (k12 11) (k12 1) xs (k23 5) m news (k52 0) Q:=by
  intro Q hh hC hCn F N h1 h2 hlen rest
  have hax1:=N _ h1
  have hax2:=N _ h2
  have hl1:s.heap.IsList l1 xs.toArray:=⟨_,hax1.1,rfl,(k12 11),rfl⟩
  have hl2:s.heap.IsList l2 (k23 5).toArray:=⟨_,hax2.1,rfl,(k12 1),rfl⟩
  have hlt1 : @LT.lt Nat _ l1 s.heap.objs.size:=Heap.lt_size hax1.1
  have hlt2 : @LT.lt Nat _ l2 s.heap.objs.size:=Heap.lt_size hax2.1
  have hLs : @LT.lt Nat _ env.locals s.heap.objs.size:=F.ns.lt
  have hfresh:∀ b:Nat,s.heap.objs.size≤b→h₀.get? b=none:=fun b hb=>kts_none F.keep (Heap.get?_none_of_le hb)
  have D:ZipApart (s.heap.objs.size+4) (s.heap.objs.size+2) (s.heap.objs.size+3) s.heap.objs.size (s.heap.objs.size+1) l1 l2:=zip_apart hlt1 hlt2
  refine call_zip_2 hl1 hl2 fun h' hz hTI hTO hi1 hi2 hsz hk=>wpAny_pyIter_zip hz ?_
  refine oe1 (rest s.heap.objs.size fun p hp=>Heap.lt_size (N p hp).1) ?_;intro J z0;refine oa3 z0 ?_;(try clear z0);intro J0 step done
  have hn:min xs.toArray.size (k23 5).toArray.size=xs.length:=by simp [hlen]
  refine ⟨(k52 0),h₀,_,_,_,_,_,_,_,m,news,fun i m n=>J i m n∧∀ p∈n,@LT.lt Nat _ p.1 s.heap.objs.size∨@LT.lt Nat _ (s.heap.objs.size+4) p.1,rfl,KTurns.ofWalksU (WalksT.zip2 hh _ _ _ _ _ _ _ D xs.toArray (k23 5).toArray).toU,?_,hC,?_,?_,⟨hz,hTI,⟨_,_,hTO⟩,hi1,hi2,hl1.at fun o e=>hk _ _ e,hl2.at fun o e=>hk _ _ e⟩,F.keeps hk,N.grown hk,⟨J0,fun p hp=>.inl (Heap.lt_size (N p hp).1)⟩,?_,?_⟩
  · intro hm
    rcases zin hm with ⟨kq,z,_⟩ | z | z
    · exact absurd hLs (Nat.not_lt.mpr (by rw [z];exact Nat.le_add_right _ _))
    · exact hax1.2.1 z.symm
    · exact hax2.2.1 z.symm
  · intro h hCh b hb
    refine hCn h hCh b ?_
    rcases zin hb with ⟨kq,z,_⟩ | z | z
    · exact hfresh _ (by rw [z];exact Nat.le_add_right _ _)
    · rw [show b=l1 from z];exact hax1.2.2
    · rw [show b=l2 from z];exact hax2.2.2
  · intro p hp hm
    exact absurd (Heap.lt_size (N p hp).1) (Nat.not_lt.mpr (zwr hm).1)
  · rintro i v h₀' m₁ news₁ h₁ tk₁ own hCh hi ⟨T,vals,rfl,⟨x,y,hx,hy,rfl⟩,hT⟩ ⟨hJ,hlt⟩ hnw hof hfo hst F₁ N₁
    refine oa6 hst ?_;(try clear hst);intro hz' hTI' z89 z90 z91 _;refine oe2 z89 ?_;(try clear z89);intro a' b' hTO';refine oe1 z90 ?_;(try clear z90);intro o1 z0;refine oa2 z0 ?_;(try clear z0);intro e1 _;refine oe1 z91 ?_;(try clear z91);intro o2 z0;refine oa2 z0 ?_;(try clear z0);intro e2 _
    have hx':xs[i]?=some x:=by simpa using hx
    have hy':(k23 5)[i]?=some y:=by simpa using hy
    refine step i x y hx' hy' h₀' T m₁ news₁ h₁ tk₁ own hCh hT hJ hlt (fun b hb1 hb2=>?_) (fun p hp=>?_) F₁ N₁ _ fun h₀'' h'' tk m' news' hC' F' N' hlt' hJ'=>?_
    · exact five (P:=fun b=>∃ o,(b,o)∈own) hb1 hb2 ⟨_,hfo _ (by k_extra "mem") _ e1⟩ ⟨_,hfo _ (by k_extra "mem") _ e2⟩ ⟨_,hfo _ (by k_extra "mem") _ hTI'⟩ ⟨_,hfo _ (by k_extra "mem") _ hTO'⟩ ⟨_,hfo _ (by k_extra "mem") _ hz'⟩
    · rcases zin (hof p hp) with ⟨kq,z,_⟩ | z | z
      · exact .inr (.inr (by rw [z];exact Nat.le_add_right _ _))
      · exact .inl z
      · exact .inr (.inl z)
    · refine ⟨rfl,h₀'',h'',tk,m',news',hC',rfl,F',N',fun p hp hm=>?_,hJ',hlt'⟩
      have a:=zwr hm
      rcases hlt' p hp with b | b
      · exact absurd b (Nat.not_lt.mpr a.1)
      · exact absurd b (Nat.not_lt.mpr a.2)
  · intro h₀' h'' tk m' news' hCh F' N' hJ
    rw [hn] at hJ
    exact done h₀' h'' tk m' news' hCh F' N' hJ.1
end Z2
theorem h_49:∀ j,j<49→∀ u,Pf j u:=histS 48 h_48 (gen 48 h_48 (by with_unfolding_all exact Z2.c_zipX))
theorem zipX {prog:Program} {w:World} {A:Around} {E:Value→Shared→Prop} {s:Shared} {env:Env} {h₀:Heap} {body:List PySem.Stmt} {Q:Flow→Shared→Prop} {elts:List PySem.Expr} {k:Nat} {pos:Pos} {l1 l2:Addr} {n1 n2:Nat} {xs ys:List Value} {m:Str→Option Value} {news:Led} (C:Heap→Prop) : P_zipX prog w A E s env h₀ body elts k pos l1 l2 n1 n2 xs ys m news C Q:=by with_unfolding_all exact h_49 48 (Nat.lt_succ_self 48) (sk0 |>.set 0 0 prog |>.set 1 0 w |>.set 2 0 A |>.set 3 0 E |>.set 4 0 s |>.set 18 0 env |>.set 5 0 h₀ |>.set 20 0 body |>.set 57 0 elts |>.set 12 10 k |>.set 56 0 pos |>.set 6 16 l1 |>.set 6 17 l2 |>.set 12 11 n1 |>.set 12 1 n2 |>.set 23 4 xs |>.set 23 5 ys |>.set 7 0 m |>.set 22 2 news |>.set 52 0 C) Q
end
end Mine
namespace Mine
section
variable {M:Model} {A:Around} {E:Value→Shared→Prop} {s:Shared} {h₀:Heap} {L a:Addr} {m:Str→Option Value} {cn:Str} {cs:Scope} {ccd:Value} {x:Str} {v:Value} {Q:Unit→Shared→Prop} {news:Led} {g:Obj→Led} {c:Addr} {o:Obj} {v₀:Option Value}
theorem storeC_C (F:Fr h₀ L s.heap m) (N:News h₀ L s.heap news) (hc:(cellsFrom (L+1) cs.names []).lookup x=some c) (U:UpdF c o news g) (hd:o.data=.cell v₀)
    (h:∀ h' o',Fr h₀ L h' m→News h₀ L h' (g o')→o'.data=.cell (some v)→Q () { s with heap:=h' })
    (hk:cs.kind=.function:=by rfl) (hx:(envOfC cn cs L a ccd).kindOf x=some .cell:=by rfl) : wpAny M A (storeName (envOfC cn cs L a ccd) x v) Q E s :=
  storeX_C (cl:=cellsFrom (L+1) cs.names []) F N hc U hd h hk hx
theorem storeC_L (F:Fr h₀ L s.heap m) (N:News h₀ L s.heap news)
    (h:∀ h',Fr h₀ L h' (fun y=>if y=x then some v else m y)→News h₀ L h' news→Q () { s with heap:=h',toks:=s.toks+1 })
    (hk:cs.kind=.function:=by rfl) (hx:(envOfC cn cs L a ccd).kindOf x=some .local:=by rfl) : wpAny M A (storeName (envOfC cn cs L a ccd) x v) Q E s :=
  storeX_L (cl:=cellsFrom (L+1) cs.names []) F N h hk hx
end
theorem four_at {f g:Int→Value} {i:Nat} {x y:Value} (h1:(four f)[i]?=some x) (h2:(four g)[i]?=some y) : ∃ i':Int,i'∈ids∧(i:Int)=i'∧x=f i'∧y=g i':=by
  unfold four at h1 h2
  have:i<4:=by
    have:=List.getElem?_eq_some_iff.mp h1
    refine oe1 this ?_;(try clear this);intro h _
    simpa using h
  have h3:i=0∨i=1∨i=2∨i=3:=by omega
  rcases h3 with rfl | rfl | rfl | rfl
  · exact ⟨0,by decide,rfl,(Option.some.inj h1).symm,(Option.some.inj h2).symm⟩
  · exact ⟨1,by decide,rfl,(Option.some.inj h1).symm,(Option.some.inj h2).symm⟩
  · exact ⟨2,by decide,rfl,(Option.some.inj h1).symm,(Option.some.inj h2).symm⟩
  · exact ⟨3,by decide,rfl,(Option.some.inj h1).symm,(Option.some.inj h2).symm⟩
end Mine
namespace Mine
theorem mem_tup {x:Int→Addr} {h p:Int→Int} {u u':Int→Tok} {l:Led} {i:Int} (_:TupSpec x h p u u') (hi:i∈ids) (h0:(x 0,tupO (h 0) (p 0) (u 0) (u' 0))∈l) (h1:(x 1,tupO (h 1) (p 1) (u 1) (u' 1))∈l) (h2:(x 2,tupO (h 2) (p 2) (u 2) (u' 2))∈l) (h3:(x 3,tupO (h 3) (p 3) (u 3) (u' 3))∈l) : (x i,tupO (h i) (p i) (u i) (u' i))∈l:=by
  have:=ids4 hi
  rcases this with rfl | rfl | rfl | rfl <;> assumption
section
variable {prog:Program} {w:World} {A:Around} {E:Value→Shared→Prop} {s:Shared} {h₀:Heap} {L:Addr} {m:Str→Option Value} {news:Led} {env:Env}
theorem unpack_tup {x:Int→Addr} {hm p:Int→Int} {u u':Int→Tok} {i:Int} {elts:List Expr} {k:Nat} {pos:Pos} {Q:Unit→Shared→Prop} (F:Fr h₀ L s.heap m) (N:News h₀ L s.heap news) (sp:TupSpec x hm p u u') (hi:i∈ids)
    (h0:(x 0,tupO (hm 0) (p 0) (u 0) (u' 0))∈news) (h1:(x 1,tupO (hm 1) (p 1) (u 1) (u' 1))∈news) (h2:(x 2,tupO (hm 2) (p 2) (u 2) (u' 2))∈news) (h3:(x 3,tupO (hm 3) (p 3) (u 3) (u' 3))∈news)
    (hh:A.handled=none) (hn:(assignEach elts env).length=2) (hstar:(assignEach elts env).findIdx? (·.1)=none)
    (h:∀ h',Fr h₀ L h' m→News h₀ L h' news→wpAny (model prog w) A (assignInOrder ((assignEach elts env).map (·.2)) [.int (hm i) (u i),.int (p i) (u' i)]) Q E { s with heap:=h' }) :
    wpAny (model prog w) A (assign (.Tuple elts k pos) env (.ref (x i))) Q E s :=
  unpackN_ F N ⟨_,(N _ (mem_tup sp hi h0 h1 h2 h3)).1,rfl,0,rfl⟩ hh hn hstar h
end
end Mine
namespace Mine
section
variable {prog:Program} {w:World} {A:Ad} {A0:Around} {E:Value→Shared→Prop} {s:Shared} {h₀:Heap} {L l:Addr} {news:Led} {n:Nat} {value slice:PySem.Expr} {Q:Value→Shared→Prop} {j i:Int} {t:Tok} {x:Int→Addr} {hm p:Int→Int} {u u':Int→Tok}
theorem side_get {f:Int→Value} (hj:j∈sides) : (#[f 0,f 1] : Array Value)[j.toNat]?=some (f j):=by
  have:=sides2 hj
  rcases this with rfl | rfl <;> rfl
theorem ids_get {f:Int→Value} (hi:i∈ids) : (#[f 0,f 1,f 2,f 3] : Array Value)[i.toNat]?=some (f i):=by
  have:=ids4 hi
  rcases this with rfl | rfl | rfl | rfl <;> rfl
theorem sub_both (N:News h₀ L s.heap news) (_:A.Ok) (h:(l,listOf #[.ref (A.b 0),.ref (A.b 1)] n)∈news) (hj:j∈sides) (hq:Q (.ref (A.b j)) s)
    (hs:subscripted slice false (.ref l) (.int j t)=operate [.ref l,.int j t] (getItem (.ref l) (.int j t))) (hg:∀ z,letTemporaryGo value (.ref l) z=pure ()) : wpAny (model prog w) A0 (subscriptTail value slice (.ref l) (.int j t)) Q E s :=
  item_list ⟨_,(N _ h).1,rfl,n,rfl⟩ (sides_iff.mp hj).1 (by have:=sides_iff.mp hj;omega) (side_get (f:=fun j=>.ref (A.b j)) hj) hq hs hg
theorem sub_own (N:News h₀ L s.heap news) (_:A.Ok) (h:(l,listOf #[.ref (A.ma 0),.ref (A.ma 1),.ref (A.ma 2),.ref (A.ma 3)] n)∈news) (hi:i∈ids) (hq:Q (.ref (A.ma i)) s)
    (hs:subscripted slice false (.ref l) (.int i t)=operate [.ref l,.int i t] (getItem (.ref l) (.int i t))) (hg:∀ z,letTemporaryGo value (.ref l) z=pure ()) : wpAny (model prog w) A0 (subscriptTail value slice (.ref l) (.int i t)) Q E s :=
  item_list ⟨_,(N _ h).1,rfl,n,rfl⟩ (ids_iff.mp hi).1 (by have:=ids_iff.mp hi;omega) (ids_get (f:=fun i=>.ref (A.ma i)) hi) hq hs hg
theorem sub_homes (N:News h₀ L s.heap news) (_:TupSpec x hm p u u') (h:(l,listOf #[.ref (x 0),.ref (x 1),.ref (x 2),.ref (x 3)] n)∈news) (hi:i∈ids) (hq:Q (.ref (x i)) s)
    (hs:subscripted slice false (.ref l) (.int i t)=operate [.ref l,.int i t] (getItem (.ref l) (.int i t))) (hg:∀ z,letTemporaryGo value (.ref l) z=pure ()) : wpAny (model prog w) A0 (subscriptTail value slice (.ref l) (.int i t)) Q E s :=
  item_list ⟨_,(N _ h).1,rfl,n,rfl⟩ (ids_iff.mp hi).1 (by have:=ids_iff.mp hi;omega) (ids_get (f:=fun i=>.ref (x i)) hi) hq hs hg
end
end Mine
namespace Mine
theorem CutA.eq {M l e r:Led} (c:CutA M l e r) : l=e++(M++r):=by
  induction c with
  | here=>rfl
  | step _ ih=>exact congrArg _ ih
  | app _ ih=>rw [ih,List.append_assoc]
section
variable {M:Model} {A:Around} {E:Value→Shared→Prop} {s:Shared} {h₀:Heap} {L a c P:Addr} {m mg mb:Str→Option Value} {cn:Str} {cs:Scope} {ccd:Value} {cl:List (Str × Addr)} {news ex r Tl:Led} {p:Program} {loose:List Str} {mean:ExcName→Option Value}
  {qual:Str} {params:Arguments} {body:Expr} {scope:Scope} {pos:Pos} {clos:List (Str × Addr)}
theorem lam_makeN {Q:Value→Shared→Prop} (F:Fr h₀ L s.heap m) (N:News h₀ L s.heap news) (hc:CutA Tl news ex r) (T:Top p loose mean mg mb h₀) (C:CodeHd h₀ c P) (hcd:ccd=.ref c) (hT:TabL P qual Tl) (hr:∀ q∈ex++r,q.1≠P) (hdef:defaultsOf params (envX cn cs L a ccd cl)=([],[])) (hq:(envX cn cs L a ccd cl).qual ++ "<lambda>" = qual) (hcl:closureFor scope (envX cn cs L a ccd cl)=pure clos)
    (h:∀ f c' ctv pm Tl' h' tk,TabL P qual Tl'→Fr h₀ L h' m→News h₀ L h' ((f,kla_obj "<lambda>" qual params body scope clos pm c' ctv)::(ex++(Tl'++r)))→(∃ oc vs t,(c',oc)∈Tl'∧oc.data=.fields vs∧vs[1]?=some (.str qual t))→(∀ q∈news,q.1<f)→(∀ q∈Tl',q.1∈Tl.map (·.1)∨∀ p∈news,p.1<q.1)→Q (.ref f) { s with heap:=h',toks:=tk }) :
    wpAny M A (eval (.Lambda params body scope pos) (envX cn cs L a ccd cl)) Q E s:=by
  subst hq
  have e:=hc.eq
  subst e
  refine kla_eval hdef (lam_make (Tl:=Tl) (rest:=ex++r) F (News.sub N fun q hq=>?_) T C hcd hT hr hcl fun f c' ctv pm Tl' h' tk hT' F' N' hco hlt hn=>h f c' ctv pm Tl' h' tk hT' F' (News.sub N' fun q hq=>?_) hco (fun q hq=>hlt q ?_) fun q hq=>(hn q hq).imp id fun z p hp=>z p ?_)
  · simp only [List.mem_append] at hq ⊢
    rcases hq with h | h | h
    · exact .inr (.inl h)
    · exact .inl h
    · exact .inr (.inr h)
  · simp only [List.mem_append,List.mem_cons] at hq ⊢
    rcases hq with h | h | h | h
    · exact .inl h
    · exact .inr (.inr (.inl h))
    · exact .inr (.inl h)
    · exact .inr (.inr (.inr h))
  · simp only [List.mem_append] at hq ⊢
    rcases hq with h | h | h
    · exact .inr (.inl h)
    · exact .inl h
    · exact .inr (.inr h)
  · simp only [List.mem_append] at hp ⊢
    rcases hp with h | h | h
    · exact .inr (.inl h)
    · exact .inl h
    · exact .inr (.inr h)
end
end Mine
namespace Mine
theorem x_refusedN {w:World} {fn:Addr} {dz:Nat} {news:Led} {fo:Obj} {fd:FuncData} {p:Program} {loose:List Str} {mean:ExcName→Option Value} {mg mb:Str→Option Value} {dp un:Nat} {gd:Option (List Code)} {cn:Str} {cs:Scope} {a:Addr} {ccd:Value} {cl:List (Str × Addr)} {outer:List Env} {A₀:Around} {base h₀:Heap} {L:Addr} {m:Str→Option Value} {s:Shared} {Q E:Value→Shared→Prop}
    (B:Below A₀ base outer h₀) (F:Fr h₀ L s.heap m) (X:(Mine.hd.heap_1 w.params).In h₀) (N:News h₀ L s.heap news) (Tp:Top p loose mean mg mb h₀) (XB:(Mine.hd.heap_1 w.params).In base) (TB:Top p loose mean mg mb base) (D:KtsDicts (outer.filterMap (·.frame)) h₀)
    (hfn:(fn,fo)∈news) (hfo:fo.data=.func fd) (S:SpecR w fn [] dz news) (hk:cs.kind=.function) (hd:dp+(dz+2)<recursionLimit) (hu:un+8 * (dz+2)<cLine)
    (ret:∀ h₀' h' tk',KtsTurn (outer.filterMap (·.frame)) h₀ h₀'→Fr h₀' L h' m→News h₀' L h' news→Below A₀ base outer h₀'→(Mine.hd.heap_1 w.params).In h₀'→Top p loose mean mg mb h₀'→KtsDicts (outer.filterMap (·.frame)) h₀'→Q (.bool true) { s with heap:=h',toks:=tk' }) :
    wpAny (model PySem.Challenge.rw_ok0063_01.prog w) (ktrTop dp un gd cn cs L a ccd cl outer) (call (.ref 527) [.ref fn]) Q E s :=
  x_refused (led:=news) (rest:=[]) S hfn hfo B F X (by rw [List.append_nil];exact N) Tp XB TB D hk hd hu fun h₀' h' tk' a1 a2 a3 a4 a5 a6 a7=>ret h₀' h' tk' a1 a2 (by rw [List.append_nil] at a3;exact a3) a4 a5 a6 a7
end Mine
namespace Mine
theorem sorted_filter {home:Int→Int} {j:Int} {ns:List Int} (nd:ns.Nodup) (h:∀ i,i∈ns ↔ i∈ids∧home i=j) (o:ns.Pairwise (·≤·)) : ns=ids.filter (fun i=>decide (home i=j)):=by
  have p:ns.Perm (ids.filter (fun i=>decide (home i=j))):=(List.perm_ext_iff_of_nodup nd (ids_nodup.filter _)).mpr fun i=>by
    rw [h i,List.mem_filter,decide_eq_true_eq]
  have o2:(ids.filter (fun i=>decide (home i=j))).Pairwise (·≤·):=(show ids.Pairwise (·≤·) by decide).filter _
  exact p.eq_of_pairwise (fun a b _ _ h1 h2=>Int.le_antisymm h1 h2) o o2
section
variable {w:World} {A:Ad} {σ:Sg} {j:Int}
end
section
namespace Z2
theorem c_st_numbers:∀ A l,P_st_numbers w σ j A l:=by
  intro A l ok hj hS
  have hS':=hS
  refine oe2 hS ?_;(try clear hS);intro EM G z0;refine oa3 z0 ?_;(try clear z0);intro z92 hM hB;obtain rfl:=z92
  obtain ⟨T,vn,vm,ct,st,tp,tb,tz,u1,g1,g2,g3,g4,g5,g6,g7,tr,ticks,gs,ge,its,n,o,kvs,eG,hin⟩:=hB j hj
  have hs:∀ p∈G j,p∈ids.flatMap EM++sides.flatMap G:=fun p hp=>List.mem_append.mpr (.inr (List.mem_flatMap.mpr ⟨j,hj,hp⟩))
  rw [eG] at hs
  have S:=mk_numbers w (k:=A.k j) (kd:=A.kd j) (r:=A.r j) (t1:=tr) hin.ro (ok.low j hj) hin.len
  intro p loose mean mg mb dp un gd cn cs a ccd cl outer A₀ base h₀ L m rest s Q E B F X N hr Tp hk hd hu ret
  refine S p loose mean mg mb dp un gd cn cs a ccd cl outer A₀ base h₀ L m ((ids.flatMap EM++sides.flatMap G)++rest) s Q E B F X (fun q hq=>?_) (fun _ _ h=>nomatch h) Tp hk hd hu ?_
  · rcases List.mem_append.mp hq with h | h
    · refine N q (List.mem_append.mpr (.inl (hs q ?_)))
      simp only [List.mem_cons,List.not_mem_nil,or_false] at h
      rcases h with h | h | h <;> subst h <;> simp
    · exact N q h
  · rintro v led' fr h' tk' ⟨D,vs,ns,c,rfl,rfl,rfl,hi,hp,ho⟩ hf F' N'
    have e:ns=ids.filter (fun i=>decide (σ.home i=j)):=sorted_filter (hp.nodup_iff.mpr (rows_nd hin.ro)) (fun i=>by
      rw [hp.mem_iff,List.mem_map]
      constructor
      · rintro ⟨⟨a,b⟩,hm,rfl⟩
        exact ⟨((hin.rows _ _).mp hm).1,((hin.rows _ _).mp hm).2.1⟩
      · rintro ⟨h1,h2⟩
        exact ⟨(i,.ref (A.ma i)),(hin.rows _ _).mpr ⟨h1,h2,rfl⟩,rfl⟩) ho
    rw [e] at hi
    refine ret _ _ h' tk' ⟨D,vs,c,rfl,rfl,hi⟩ F' fun q hq=>N' q ?_
    rcases List.mem_append.mp hq with h | h
    · rcases List.mem_cons.mp h with rfl | h
      · exact .head _
      · exact List.mem_append.mpr (.inr (List.mem_append.mpr (.inl h)))
    · exact List.mem_append.mpr (.inr (List.mem_append.mpr (.inr h)))
end Z2
theorem h_50:∀ j,j<50→∀ u,Pf j u:=histS 49 h_49 (gen 49 h_49 (by with_unfolding_all exact Z2.c_st_numbers))
theorem st_numbers {w:World} {A:Ad} {σ:Sg} {j:Int} (ok:A.Ok) (hj:j∈sides) (l:Led) (hS:St w A σ l) : Spec w 277 [.ref (A.k j)] 1 l [] fun v l'=>∃ D vs c,v=.ref D∧l'=(D,listOf (List.toArray vs) c)::l∧IntsAre vs (ids.filter (fun i=>decide (σ.home i=j))):=by with_unfolding_all exact h_50 49 (Nat.lt_succ_self 49) (sk0 |>.set 1 0 w |>.set 28 0 σ |>.set 15 10 j) A l ok hj hS
end
theorem ein {S l1 b:Nat} (h:b∈([S+1,S,l1] : List Nat)) : (S≤b∧b≤S+1)∨b=l1:=by
  rcases List.mem_cons.mp h with rfl | h
  · exact .inl ⟨Nat.le_add_right _ _,Nat.le_refl _⟩
  rcases List.mem_cons.mp h with rfl | h
  · exact .inl ⟨Nat.le_refl _,Nat.le_add_right _ _⟩
  · exact .inr (List.mem_singleton.mp h)
theorem ewr {S b:Nat} (h:b∈([S+1,S] : List Nat)) : S≤b∧b≤S+1:=by
  rcases ein (l1:=S) (sbi h (by k_extra "sb")) with h | rfl
  · exact h
  · exact ⟨Nat.le_refl _,Nat.le_add_right _ _⟩
section
variable {prog:Program} {w:World} {A:Around} {E:Value→Shared→Prop} {s:Shared} {env:Env} {h₀:Heap} {body:List Stmt} {Q:Flow→Shared→Prop}
end
section
namespace Z2
theorem c_enumX:∀ Q,P_enumX prog w A E s env h₀ (k20 0) (k57 0) (k12 10) (k56 0) l1 (k12 11) xs m news (k52 0) Q:=by
  intro Q hh hC hCn F N h1 rest
  have hax1:=N _ h1
  have hl1:s.heap.IsList l1 xs.toArray:=⟨_,hax1.1,rfl,(k12 11),rfl⟩
  have hlt1 : @LT.lt Nat _ l1 s.heap.objs.size:=Heap.lt_size hax1.1
  have hLs : @LT.lt Nat _ env.locals s.heap.objs.size:=F.ns.lt
  have hfresh:∀ b:Nat,s.heap.objs.size≤b→h₀.get? b=none:=fun b hb=>kts_none F.keep (Heap.get?_none_of_le hb)
  refine call_enumerate_list hl1 fun h' hz hi1 hsz hk=>wpAny_pyIter_enum hz ?_
  refine oe1 (rest s.heap.objs.size fun p hp=>Heap.lt_size (N p hp).1) ?_;intro J z0;refine oa3 z0 ?_;(try clear z0);intro J0 step done
  have ne:∀ {a b:Nat},a<b∨b<a→@Ne Addr a b:=fun h e=>by
    rcases h with h | h <;> exact absurd h (by rw [show _=_ from e];exact Nat.lt_irrefl _)
  have hn:xs.toArray.size=xs.length:=by simp
  refine ⟨(k52 0),h₀,_,_,_,_,_,_,_,m,news,fun i m n=>J i m n∧∀ p∈n,@LT.lt Nat _ p.1 s.heap.objs.size∨@LT.lt Nat _ (s.heap.objs.size+1) p.1,rfl,KTurns.ofWalksU (WalksT.enumerate hh (s.heap.objs.size+1) s.heap.objs.size l1 (ne (by omega)) (ne (by omega)) (ne (by omega)) xs.toArray).toU,?_,hC,?_,?_,⟨⟨_,hz⟩,hi1,hl1.at fun o e=>hk _ _ e⟩,F.keeps hk,N.grown hk,⟨J0,fun p hp=>.inl (Heap.lt_size (N p hp).1)⟩,?_,?_⟩
  · intro hm
    rcases ein hm with ⟨z,_⟩ | z
    · exact absurd hLs (Nat.not_lt.mpr z)
    · exact hax1.2.1 z.symm
  · intro h hCh b hb
    refine hCn h hCh b ?_
    rcases ein hb with ⟨z,_⟩ | z
    · exact hfresh _ z
    · rw [show b=l1 from z];exact hax1.2.2
  · intro p hp hm
    exact absurd (Heap.lt_size (N p hp).1) (Nat.not_lt.mpr (ewr hm).1)
  · rintro i v h₀' m₁ news₁ h₁ tk₁ own hCh hi ⟨T,vals,rfl,⟨t,x,hx,rfl⟩,hT⟩ ⟨hJ,hlt⟩ hnw hof hfo hst F₁ N₁
    refine oa3 hst ?_;(try clear hst);intro z93 z94 _;refine oe1 z93 ?_;(try clear z93);intro old hz';refine oe1 z94 ?_;(try clear z94);intro o1 z0;refine oa2 z0 ?_;(try clear z0);intro e1 _
    have hx':xs[i]?=some x:=by simpa using hx
    refine step i x hx' h₀' T t m₁ news₁ h₁ tk₁ own hCh hT hJ hlt (fun b hb1 hb2=>?_) (fun p hp=>?_) F₁ N₁ _ fun h₀'' h'' tk m' news' hC' F' N' hlt' hJ'=>?_
    · rcases Nat.eq_or_lt_of_le hb2 with z | z
      · exact z ▸ ⟨_,hfo _ (by k_extra "mem") _ e1⟩
      · exact Nat.le_antisymm z (Nat.le_of_lt_succ hb1) ▸ ⟨_,hfo _ (by k_extra "mem") _ hz'⟩
    · rcases ein (hof p hp) with ⟨z,_⟩ | z
      · exact .inr z
      · exact .inl z
    · refine ⟨rfl,h₀'',h'',tk,m',news',hC',rfl,F',N',fun p hp hm=>?_,hJ',hlt'⟩
      have a:=ewr hm
      rcases hlt' p hp with b | b
      · exact absurd b (Nat.not_lt.mpr a.1)
      · exact absurd b (Nat.not_lt.mpr a.2)
  · intro h₀' h'' tk m' news' hCh F' N' hJ
    rw [hn] at hJ
    exact done h₀' h'' tk m' news' hCh F' N' hJ.1
end Z2
theorem h_51:∀ j,j<51→∀ u,Pf j u:=histS 50 h_50 (gen 50 h_50 (by with_unfolding_all exact Z2.c_enumX))
theorem enumX {prog:Program} {w:World} {A:Around} {E:Value→Shared→Prop} {s:Shared} {env:Env} {h₀:Heap} {body:List PySem.Stmt} {Q:Flow→Shared→Prop} {elts:List PySem.Expr} {k:Nat} {pos:Pos} {l1:Addr} {n1:Nat} {xs:List Value} {m:Str→Option Value} {news:Led} (C:Heap→Prop) : P_enumX prog w A E s env h₀ body elts k pos l1 n1 xs m news C Q:=by with_unfolding_all exact h_51 50 (Nat.lt_succ_self 50) (sk0 |>.set 0 0 prog |>.set 1 0 w |>.set 2 0 A |>.set 3 0 E |>.set 4 0 s |>.set 18 0 env |>.set 5 0 h₀ |>.set 20 0 body |>.set 57 0 elts |>.set 12 10 k |>.set 56 0 pos |>.set 6 16 l1 |>.set 12 11 n1 |>.set 23 4 xs |>.set 7 0 m |>.set 22 2 news |>.set 52 0 C) Q
end
end Mine
namespace Mine
section
variable {w:World} {A:Ad} {σ:Sg} {i j k h:Int}
theorem kw78_1:True:=by
  k_with "call ref" => ((fail_if_success have:=@e78_1);k_here;(with_reducible show wpAny _ _ (call (Value.ref 62) _) _ _ _);k_dflt (refine' Spec.useC (ledx:=[]) (st_place ?y0 ?y1 ?y2 _ ?hS) ?B ?F ?X ?N ?C ?P ?hr ?T ?hk ?hd ?hu ?_;k_extra "us2";(case y0=>assumption);(case y1=>assumption);(case y2=>assumption);(case hr=>k_extra "h1");k_whole);intro v9 led9 h' tk' hP9;refine oe1 hP9 ?_;(try clear hP9);intro σ9 z0;refine oa2 z0 ?_;(try clear z0);intro z95 hS9;refine oa2 z95 ?_;(try clear z95);intro z96 hσ9;refine oe1 z96 ?_;(try clear z96);intro t9 hv9;subst hv9;intro F' N';rw [hσ9] at hS9;clear hσ9;(replace N':=reorder (a:=[]) N');k_extra "nn")
  k_with "call ref" => ((fail_if_success have:=@e78_1);k_here;(with_reducible show wpAny _ _ (call (Value.ref 397) _) _ _ _);k_dflt (refine' Spec.useC (ledx:=[]) (st_goto ?y0 ?y1 _ ?hS) ?B ?F ?X ?N ?C ?P ?hr ?T ?hk ?hd ?hu ?_;k_extra "us2";(case y0=>assumption);(case y1=>first | assumption | decide);(case hr=>k_extra "h1");k_whole);intro v9 led9 h' tk' hP9;refine oe1 hP9 ?_;(try clear hP9);intro σ9 z0;refine oa2 z0 ?_;(try clear z0);intro z97 hS9;refine oa2 z97 ?_;(try clear z97);intro z98 hσ9;refine oe1 z98 ?_;(try clear z98);intro t9 hv9;subst hv9;intro F' N';rw [hσ9] at hS9;clear hσ9;(replace N':=reorder (a:=[]) N');k_extra "nn")
  trivial
end
section
namespace Z2
theorem c_st_same0:∀ A k l,P_st_same0 SpecC w σ (k15 7) A k l:=by
  intro A k l ok hi hk hh hh2 hS
  intro B F X N hr Tp hkf hd hu ret
  have hs:∀ x,(x=-1∨x∈sides)→x=-1∨x=0∨x=1:=fun x hx=>by
    rcases hx with h | h
    · exact .inl h
    · have:=sides_iff.mp h
      omega
  have g1:(∃ v,bufV A (σ.home (k15 7))=v∧((σ.home (k15 7)=-1∧v=.none)∨(σ.home (k15 7)=0∧v=.ref (A.b 0))∨(σ.home (k15 7)=1∧v=.ref (A.b 1)))):=by
    rcases hs _ hh with e | e | e <;> rw [e]
    · exact ⟨_,rfl,.inl ⟨rfl,rfl⟩⟩
    · exact ⟨_,rfl,.inr (.inl ⟨rfl,rfl⟩)⟩
    · exact ⟨_,rfl,.inr (.inr ⟨rfl,rfl⟩)⟩
  have g2:(∃ v,bufV A (σ.home k)=v∧((σ.home k=-1∧v=.none)∨(σ.home k=0∧v=.ref (A.b 0))∨(σ.home k=1∧v=.ref (A.b 1)))):=by
    rcases hs _ hh2 with e | e | e <;> rw [e]
    · exact ⟨_,rfl,.inl ⟨rfl,rfl⟩⟩
    · exact ⟨_,rfl,.inr (.inl ⟨rfl,rfl⟩)⟩
    · exact ⟨_,rfl,.inr (.inr ⟨rfl,rfl⟩)⟩
  refine oe1 g1 ?_;(try clear g1);intro v1 z0;refine oa2 z0 ?_;(try clear z0);intro eb1 g1
  refine oe1 g2 ?_;(try clear g2);intro v2 z0;refine oa2 z0 ?_;(try clear z0);intro eb2 g2
  rcases g1 with ⟨x1,rfl⟩ | ⟨x1,rfl⟩ | ⟨x1,rfl⟩ <;> rcases g2 with ⟨x2,rfl⟩ | ⟨x2,rfl⟩ | ⟨x2,rfl⟩
  all_goals (
    revert X;k_fill;intro X
    refine wpAny_call ?_
    k_dflt (refine' enterZ [ofString "one",ofString "other"] (l':=[(ofString "other",_),(ofString "one",_)]) ?k1 ?k2 ?k3 ?k4 ?k5 ?kA ?kF ?kK ?k6 ?k7 ?k8 ?k9 ?kB ?kL ?_ ?c2 ?c3 ?c4 ?c5;k_extra "ez")
    k_steps
    all_goals (
      rename News h₀ L _ _=>N9
      refine' ret _ _ _ _ ⟨?v,rfl⟩ ?F N9
      (case F=>assumption)
      (case v=>rw [x1,x2];try (congr 1 <;> first | (simp;done) | (by_cases z:σ.pos (k15 7)=σ.pos k <;> simp [z])))))
end Z2
theorem h_52:∀ j,j<52→∀ u,Pf j u:=histS 51 h_51 (gen 51 h_51 (by with_unfolding_all exact Z2.c_st_same0))
theorem st_same0 {w:World} {A:Ad} {σ:Sg} {i k:Int} (ok:A.Ok) (hi:i∈ids) (hk:k∈ids) (hh:σ.home i=-1∨σ.home i∈sides) (hh2:σ.home k=-1∨σ.home k∈sides) (l:Led) (hS:St w A σ l) : Spec w 76 [.ref (A.ma i),.ref (A.ma k)] 2 l [] fun v l'=>v=.bool (decide (σ.home i=σ.home k∧σ.pos i=σ.pos k))∧l'=l:=fun p loose mean mg mb dp un gd cn cs a ccd cl outer A₀ base h₀ L m rest s Q E=>by with_unfolding_all exact h_52 51 (Nat.lt_succ_self 51) (sk0 |>.set 1 0 w |>.set 28 0 σ |>.set 15 7 i |>.ctx p loose mean mg mb dp un gd cn cs a ccd cl outer A₀ base h₀ L m rest s Q E) A k l ok hi hk hh hh2 hS
theorem e78_1:True:=trivial
end
end Mine
namespace Mine
open PyProof.V PyProof.Rows.LCg
section
variable {prog:Program} {w:World} {A:Around} {E:Value→Shared→Prop} {s:Shared} {env:Env} {h₀:Heap} {L:Addr}
end
section
namespace Z2
theorem c_compC:∀ a St,P_compC prog w A E s env h₀ L (k8 3) (k8 4) c b (k56 1) (k56 2) (k56 3) (k12 12) (k43 1) cl (k56 0) m news Q (k6 15) fp wr n (k54 0) (k54 1) (k58 0) J a St:=by
  intro a St W hh hP hself hLf hfp hfp0 hnw hst hz F N hcell hkind hxa hxb hab J0 step done
  refine wpAny_newObj_type (wpAny_newFunctionEnv hcell (by intro y hy;simp at hy) (fun h₁ hns₁ hsb₁=>?_) hkind)
  dsimp only at hns₁ hsb₁ ⊢
  generalize hH2:s.heap.push { cls:=.type "list",dict:=none,data:=.seq ([] : List Value).toArray }=H2 at hns₁ hsb₁ ⊢
  have hC:H2.objs.size=s.heap.objs.size+1:=by rw [← hH2,Heap.size_push]
  have hDC:s.heap.objs.size≠H2.objs.size:=by rw [hC];exact Nat.ne_of_lt (Nat.lt_succ_self _)
  have below:∀ b,b<s.heap.objs.size→b≠H2.objs.size∧b≠s.heap.objs.size:=fun b hb=>⟨by rw [hC];exact Nat.ne_of_lt (Nat.lt_succ_of_lt hb),Nat.ne_of_lt hb⟩
  have old:∀ b o,s.heap.get? b=some o→h₁.get? b=some o:=fun b o e=>hsb₁.extBut b o (below b (Heap.lt_size e)).1 (Heap.get?_push_of_some _ (hH2 ▸ Heap.get?_push_of_some _ e))
  have hacc:h₁.get? s.heap.objs.size=some (lst []):=hsb₁.extBut _ _ hDC (Heap.get?_push_of_some _ (hH2 ▸ Heap.get?_push_size _ rfl))
  have hst₁:St 0 h₁:=W.frame _ _ _ hst fun b _ o e=>old b o e
  have fresh₀:∀ b:Nat,s.heap.objs.size≤b→h₀.get? b=none:=fun b hb=>kts_none F.keep (Heap.get?_none_of_le hb)
  have hD₀:h₀.get? s.heap.objs.size=none:=fresh₀ _ (Nat.le_refl _)
  have hC₀:h₀.get? H2.objs.size=none:=fresh₀ _ (by rw [hC];exact Nat.le_succ _)
  have hLlt:L<s.heap.objs.size:=F.ns.lt
  have hDL:s.heap.objs.size≠L:=Ne.symm (below L hLlt).2
  have hCL:H2.objs.size≠L:=Ne.symm (below L hLlt).1
  have fD:s.heap.objs.size ∉ fp:=fun h=>absurd (hfp _ h) (Nat.lt_irrefl _)
  have fC:H2.objs.size ∉ fp:=fun h=>absurd (hfp _ h) (by rw [hC];exact Nat.not_lt.mpr (Nat.le_succ _))
  have wD:s.heap.objs.size ∉ wr:=fun h=>fD (W.sub _ h)
  have wC:H2.objs.size ∉ wr:=fun h=>fC (W.sub _ h)
  have wL:L ∉ wr:=fun h=>hLf (W.sub _ h)
  have nD:∀ p∈news,@Ne Nat p.1 s.heap.objs.size:=fun p hp=>(below _ (Heap.lt_size (N p hp).1)).2
  have nC:∀ p∈news,@Ne Nat p.1 H2.objs.size:=fun p hp=>(below _ (Heap.lt_size (N p hp).1)).1
  have wold:∀ b o,h₀.get? b=some o→b ∉ wr:=fun b o e hb=>by rw [hfp0 _ (W.sub _ hb)] at e;cases e
  have loop:∀ s₃:Shared,s₃={ s with heap:=h₁,toks:=s.toks+([] : List (Str × Value)).length } →
      codeAny (model prog w) A (.compLoop (.ListComp (k8 3) [⟨.Tuple [.Name a (k56 1),.Name b (k56 2)] (k12 12) (k56 3),(k8 4),[c],0⟩] (k43 1) (k56 0)) 0 (.ref (k6 15)) (.ref s.heap.objs.size) (compEnvC (k43 1) cl H2.objs.size env))
        (compPost (model prog w) A E none Q (.ref s.heap.objs.size) H2.objs.size) s₃:=by
    rintro s₃ rfl
    refine kct_loop
      (fun k s'=>∃ h' tk i zs m',s'={ s with heap:=h',toks:=tk }∧i≤n∧k=n+1-i∧zs.length≤i∧St i h'∧Fr h₀ L h' m∧h'.Ns H2.objs.size m'∧News h₀ L h' ((s.heap.objs.size,lst zs)::news)∧J i zs) ?_ (n+1)
      ⟨h₁,_,0,[],_,rfl,Nat.zero_le _,rfl,Nat.le_refl _,hst₁,F.keeps old,hns₁,fun p hp=>?_,J0⟩
    · rintro k s' ⟨h',tk,i,zs,m',rfl,hi,rfl,hyl,hst',F',hn',N',hJ⟩
      have D':=N' _ List.mem_cons_self
      have Nn:News h₀ L h' news:=fun q hq=>N' q (List.mem_cons_of_mem _ hq)
      by_cases hlt:i<n
      · refine W.item i _ _ _ hlt hst' fun v h₂ tk₂ hMd hk₂=>?_
        refine W.go i v _ _ _ hMd fun h₃ hP₃ hst₃ hk₃=>?_
        refine oe3 (hP _ _ _ hP₃) ?_;intro T x y z0;refine oa3 z0 ?_;(try clear z0);intro z99 hxy hT;obtain rfl:=z99
        have up₃:∀ c o,c ∉ wr→h'.get? c=some o→h₃.get? c=some o:=fun c o hc e=>hk₃ c o hc (hk₂ c o hc e)
        refine kcp_assign (env:=compEnvC (k43 1) cl H2.objs.size env) hh hT (lookup_relabel_local hxa) (lookup_relabel_local hxb) (by simp [compEnvC,relabel,hkind]) (hn'.at' fun o e=>up₃ _ o wC e) fun h₄ tk₄ hn₄ hs₄=>?_
        have up:∀ c o,c ∉ wr→c≠H2.objs.size→h'.get? c=some o→h₄.get? c=some o:=fun c o h1 h2 e=>hs₄ c o h2 (up₃ c o h1 e)
        have hst₄:St (i+1) h₄:=W.frame _ _ _ hst₃ fun b hb o e=>hs₄ b o (fun z=>fC ((show b=H2.objs.size from z) ▸ hb)) e
        refine oe1 (ns_obj hn₄) ?_;intro oC z0;refine oa2 z0 ?_;(try clear z0);intro heC hoC
        have F₄:Fr h₀ L h₄ m:=⟨F'.ns.at' fun o e=>up _ o wL (Ne.symm hCL) e,fun c o e=>up c o (wold c o e) (fun q=>by rw [q,hC₀] at e;cases e) (F'.keep c o e),F'.above⟩
        have N₄:News h₀ L h₄ ((s.heap.objs.size,lst zs)::news):=fun q hq=>by
          rcases List.mem_cons.mp hq with rfl | hq
          · exact ⟨up _ _ wD hDC D'.1,D'.2⟩
          · exact ⟨up _ _ (hnw q hq) (nC q hq) (Nn q hq).1,(Nn q hq).2⟩
        have N₅:News h₀ L h₄ ((H2.objs.size,oC)::(s.heap.objs.size,lst zs)::news):=fun q hq=>by
          rcases List.mem_cons.mp hq with rfl | hq
          · exact ⟨heC,hCL,hC₀⟩
          · exact N₄ q hq
        refine step i x y zs _ oC _ _ h₄ _ hxy hJ hoC (by simp [hab]) (by simp) F₄ N₅ nC _ _ _ (fun v tk₅ hJ'=>?_) fun tk₅ hJ'=>?_
        · refine append_at (hsz:=by show zs.toArray.size≤sizeLine;rw [List.size_toArray];exact Nat.le_trans hyl (Nat.le_trans hi hz)) (N₄ _ List.mem_cons_self).1 fun h₆ hs₆ hD₆=>?_
          refine ⟨n+1-(i+1),dec hlt,h₆,_,i+1,zs++[v],_,rfl,hlt,rfl,by rw [List.length_append,List.length_singleton];exact Nat.succ_le_succ hyl,W.frame _ _ _ hst₄ fun b hb o e=>hs₆.extBut b o (fun z=>fD (z ▸ hb)) e,F₄.change hs₆ hDL hD₀,hoC.ns (hs₆.extBut _ oC (Ne.symm hDC) heC),fun q hq=>?_,hJ'⟩
          rcases List.mem_cons.mp hq with rfl | hq
          · exact ⟨hD₆.trans (congrArg some (lst_snoc zs v)),hDL,hD₀⟩
          · exact ⟨hs₆.extBut _ _ (nD q hq) (N₄ q (List.mem_cons_of_mem _ hq)).1,(Nn q hq).2⟩
        · exact ⟨n+1-(i+1),dec hlt,h₄,_,i+1,zs,_,rfl,hlt,rfl,Nat.le_succ_of_le hyl,hst₄,F₄,hoC.ns heC,N₄,hJ'⟩
      · have hin:i=n:=Nat.le_antisymm hi (Nat.not_lt.mp hlt)
        subst hin
        refine W.done _ _ _ hst' fun h₂ tk₂ hk₂=>?_
        have F₂:Fr h₀ L h₂ m:=⟨F'.ns.at' fun o e=>hk₂ _ o wL e,fun c o e=>hk₂ c o (wold c o e) (F'.keep c o e),F'.above⟩
        refine ⟨m',hn'.at' fun o e=>hk₂ _ o wC e,fun h'' hs''=>done _ zs h'' tk₂ hJ (F₂.change hs'' hCL hC₀) fun q hq=>?_⟩
        rcases List.mem_cons.mp hq with rfl | hq
        · exact ⟨hs''.extBut _ _ hDC (hk₂ _ _ wD D'.1),D'.2⟩
        · exact ⟨hs''.extBut _ _ (nC q hq) (hk₂ _ _ (hnw q hq) (Nn q hq).1),(Nn q hq).2⟩
    · rcases List.mem_cons.mp hp with rfl | hp
      · exact ⟨hacc,hDL,hD₀⟩
      · exact ⟨old _ _ (N p hp).1,(N p hp).2⟩
  exact codeAny_compStart_list (loop _ rfl) (hself _ _ _ hst₁ (loop _ rfl))
end Z2
theorem h_53:∀ j,j<53→∀ u,Pf j u:=histS 52 h_52 (gen 52 h_52 (by with_unfolding_all exact Z2.c_compC))
theorem compC {prog:Program} {w:World} {A:Around} {E:Value→Shared→Prop} {s:Shared} {env:Env} {h₀:Heap} {L:Addr} {elt iter c:PySem.Expr} {a b:Str} {pa pb tp:Pos} {kk:Nat} {scope:Scope} {cl:List (Prod Str Addr)} {pos:Pos} {m:Str→Option Value} {news:Led} {Q:Value→Shared→Prop} {I:Addr} {fp wr:List Addr} {n:Nat} {P Md:Nat→Value→Heap→Prop} {St:Nat→Heap→Prop} (W:KTurns prog w A (.Tuple [.Name a pa,.Name b pb] kk tp) I fp wr n P Md St) (hh:A.handled=none) (xy:Nat→Value→Value→Prop) (hP:∀ i v h,P i v h→∃ T x y,v=.ref T∧xy i x y∧h.IsTuple T #[x,y]) (hself:∀ (s':Shared) (E':Value→Shared→Prop) (Q':Value→Shared→Prop),St 0 s'.heap→Q' (.ref I) s'→wpAny (model prog w) A (pyIter (.ref I)) Q' E' s') (hLf:L ∉ fp) (hfp:∀ b∈fp,@LT.lt Nat _ b s.heap.objs.size) (hfp0:∀ b∈fp,h₀.get? b=none) (hnw:∀ p∈news,p.1 ∉ wr) (hst:St 0 s.heap) (hz:n≤sizeLine) (F:Fr h₀ L s.heap m) (N:News h₀ L s.heap news) (hcell:∀ y∈scope.names,y.2≠.cell) (hkind:scope.kind=.function) (hxa:scope.names.lookup a=some .local) (hxb:scope.names.lookup b=some .local) (hab : ¬ a=b) (J:Nat→List Value→Prop) (J0:J 0 []) (step:∀ i x y zs C oC D m₂ h tk,xy i x y→J i zs→NsObj oC m₂→m₂ a=some x→m₂ b=some y→Fr h₀ L h m→News h₀ L h ((C,oC)::(D,lst zs)::news)→(∀ p∈news,@Ne Nat p.1 C) →
      ∀ (P1:Value→Shared→Prop) (P2:Shared→Prop) (E':Value→Shared→Prop),(∀ v tk,J (i+1) (zs++[v])→P1 v { s with heap:=h,toks:=tk })→(∀ tk,J (i+1) zs→P2 { s with heap:=h,toks:=tk }) →
      wpAny (model prog w) A (isTrue c (compEnvC scope cl C env) (eval c (compEnvC scope cl C env))) (fun ok s₃=>if ok=true then wpAny (model prog w) A (eval elt (compEnvC scope cl C env)) P1 E' s₃ else P2 s₃) E' { s with heap:=h,toks:=tk }) (done:∀ D zs h tk,J n zs→Fr h₀ L h m→News h₀ L h ((D,lst zs)::news)→Q (.ref D) { s with heap:=h,toks:=tk }) : wpAny (model prog w) A (newList []) (fun acc s₃=>wpAny (model prog w) A (newFunctionEnv scope env.globals cl [] env.qual none .none (some env)) (fun cenv s₄ =>
      codeAny (model prog w) A (.compStart (.ListComp elt [⟨.Tuple [.Name a pa,.Name b pb] kk tp,iter,[c],0⟩] scope pos) 0 (.ref I) acc { cenv with scope:=relabel scope env }) (compPost (model prog w) A E none Q acc cenv.locals) s₄) E s₃) E s:=by with_unfolding_all exact h_53 52 (Nat.lt_succ_self 52) (sk0 |>.set 0 0 prog |>.set 1 0 w |>.set 2 0 A |>.set 3 0 E |>.set 4 0 s |>.set 18 0 env |>.set 5 0 h₀ |>.set 6 0 L |>.set 8 3 elt |>.set 8 4 iter |>.set 8 5 c |>.set 19 7 b |>.set 56 1 pa |>.set 56 2 pb |>.set 56 3 tp |>.set 12 12 kk |>.set 43 1 scope |>.set 44 0 cl |>.set 56 0 pos |>.set 7 0 m |>.set 22 2 news |>.set 3 1 Q |>.set 6 15 I |>.set 53 0 fp |>.set 53 1 wr |>.set 12 0 n |>.set 54 0 P |>.set 54 1 Md |>.set 58 0 xy |>.set 59 0 J) a St W hh hP hself hLf hfp hfp0 hnw hst hz F N hcell hkind hxa hxb hab J0 step done
end
section
namespace Z2
theorem c_zipC:∀ a,P_zipC prog w A E s env h₀ L (k8 3) (k8 4) c b (k56 1) (k56 2) (k56 3) (k12 12) (k43 1) cl (k56 0) l1 l2 (k12 11) (k12 1) xs (k23 5) m news Q J a:=by
  intro a hh F N h1 h2 hlen hz hcell hkind hxa hxb hab J0 step done
  have hax1:=N _ h1
  have hax2:=N _ h2
  have hl1:s.heap.IsList l1 xs.toArray:=⟨_,hax1.1,rfl,(k12 11),rfl⟩
  have hl2:s.heap.IsList l2 (k23 5).toArray:=⟨_,hax2.1,rfl,(k12 1),rfl⟩
  have hlt1 : @LT.lt Nat _ l1 s.heap.objs.size:=Heap.lt_size hax1.1
  have hlt2 : @LT.lt Nat _ l2 s.heap.objs.size:=Heap.lt_size hax2.1
  have hLs : @LT.lt Nat _ L s.heap.objs.size:=F.ns.lt
  have hfresh:∀ b:Nat,s.heap.objs.size≤b→h₀.get? b=none:=fun b hb=>kts_none F.keep (Heap.get?_none_of_le hb)
  have D:ZipApart (s.heap.objs.size+4) (s.heap.objs.size+2) (s.heap.objs.size+3) s.heap.objs.size (s.heap.objs.size+1) l1 l2:=zip_apart hlt1 hlt2
  refine call_zip_2 hl1 hl2 fun h' hz' hTI hTO hi1 hi2 hsz hk=>wpAny_pyIter_zip hz' ?_
  have hn:min xs.toArray.size (k23 5).toArray.size=xs.length:=by simp [hlen]
  have e4 : @LT.lt Nat _ (s.heap.objs.size+4) h'.objs.size:=Heap.lt_size (o:=_) hz'
  refine compC (KTurns.ofWalksU (WalksT.zip2 hh _ _ _ _ _ _ _ D xs.toArray (k23 5).toArray).toU) hh (fun i x y=>xs[i]?=some x∧(k23 5)[i]?=some y) ?hP ?hself ?hLf ?hfp ?hfp0 ?hnw ⟨hz',hTI,⟨_,_,hTO⟩,hi1,hi2,hl1.at fun o e=>hk _ _ e,hl2.at fun o e=>hk _ _ e⟩ (by rw [hn];exact hz) (F.keeps hk) (N.grown hk) hcell hkind hxa hxb hab J J0 step (by rw [hn];exact done)
  case hP =>
    rintro i v h ⟨T,vals,rfl,⟨x,y,hx,hy,rfl⟩,hT⟩
    exact ⟨T,x,y,rfl,⟨by simpa using hx,by simpa using hy⟩,hT⟩
  case hself=>exact fun s' E' Q' st q=>wpAny_pyIter_zip st.1 q
  case hLf =>
    intro hm
    rcases zin hm with ⟨kq,z,_⟩ | z | z
    · exact absurd hLs (Nat.not_lt.mpr (by rw [z];exact Nat.le_add_right _ _))
    · exact hax1.2.1 z.symm
    · exact hax2.2.1 z.symm
  case hfp =>
    intro b hb
    show @LT.lt Nat _ b h'.objs.size
    have hs:=Nat.lt_of_le_of_lt (Nat.le_add_right _ _) e4
    rcases zin hb with ⟨kq,z,hkq⟩ | z | z
    · rw [show b=_ from z];exact Nat.lt_of_le_of_lt (Nat.add_le_add_left hkq _) e4
    · rw [show b=_ from z];exact Nat.lt_trans hlt1 hs
    · rw [show b=_ from z];exact Nat.lt_trans hlt2 hs
  case hfp0 =>
    intro b hb
    rcases zin hb with ⟨kq,z,_⟩ | z | z
    · exact hfresh _ (by rw [z];exact Nat.le_add_right _ _)
    · rw [show b=l1 from z];exact hax1.2.2
    · rw [show b=l2 from z];exact hax2.2.2
  case hnw =>
    intro p hp hm
    exact absurd (Heap.lt_size (N p hp).1) (Nat.not_lt.mpr (zwr hm).1)
end Z2
theorem h_54:∀ j,j<54→∀ u,Pf j u:=histS 53 h_53 (gen 53 h_53 (by with_unfolding_all exact Z2.c_zipC))
theorem zipC {prog:Program} {w:World} {A:Around} {E:Value→Shared→Prop} {s:Shared} {env:Env} {h₀:Heap} {L:Addr} {elt iter c:PySem.Expr} {a b:Str} {pa pb tp:Pos} {kk:Nat} {scope:Scope} {cl:List (Prod Str Addr)} {pos:Pos} {l1 l2:Addr} {n1 n2:Nat} {xs ys:List Value} {m:Str→Option Value} {news:Led} {Q:Value→Shared→Prop} (hh:A.handled=none) (F:Fr h₀ L s.heap m) (N:News h₀ L s.heap news) (h1:(l1,listOf xs.toArray n1)∈news) (h2:(l2,listOf ys.toArray n2)∈news) (hlen:xs.length=ys.length) (hz:xs.length≤sizeLine) (hcell:∀ y∈scope.names,y.2≠.cell) (hkind:scope.kind=.function) (hxa:scope.names.lookup a=some .local) (hxb:scope.names.lookup b=some .local) (hab : ¬ a=b) (J:Nat→List Value→Prop) (J0:J 0 []) (step:∀ i x y zs C oC D m₂ h tk,(xs[i]?=some x∧ys[i]?=some y)→J i zs→NsObj oC m₂→m₂ a=some x→m₂ b=some y→Fr h₀ L h m→News h₀ L h ((C,oC)::(D,lst zs)::news)→(∀ p∈news,@Ne Nat p.1 C) →
      ∀ (P1:Value→Shared→Prop) (P2:Shared→Prop) (E':Value→Shared→Prop),(∀ v tk,J (i+1) (zs++[v])→P1 v { s with heap:=h,toks:=tk })→(∀ tk,J (i+1) zs→P2 { s with heap:=h,toks:=tk }) →
      wpAny (model prog w) A (isTrue c (compEnvC scope cl C env) (eval c (compEnvC scope cl C env))) (fun ok s₃=>if ok=true then wpAny (model prog w) A (eval elt (compEnvC scope cl C env)) P1 E' s₃ else P2 s₃) E' { s with heap:=h,toks:=tk }) (done:∀ D zs h tk,J xs.length zs→Fr h₀ L h m→News h₀ L h ((D,lst zs)::news)→Q (.ref D) { s with heap:=h,toks:=tk }) : wpAny (model prog w) A (call (.type "zip") [.ref l1,.ref l2]) (fun xv s₁=>wpAny (model prog w) A (pyIter xv) (fun it s₂=>wpAny (model prog w) A (newList []) (fun acc s₃ =>
      wpAny (model prog w) A (newFunctionEnv scope env.globals cl [] env.qual none .none (some env)) (fun cenv s₄ =>
        codeAny (model prog w) A (.compStart (.ListComp elt [⟨.Tuple [.Name a pa,.Name b pb] kk tp,iter,[c],0⟩] scope pos) 0 it acc { cenv with scope:=relabel scope env }) (compPost (model prog w) A E none Q acc cenv.locals) s₄) E s₃) E s₂) E s₁) E s:=by with_unfolding_all exact h_54 53 (Nat.lt_succ_self 53) (sk0 |>.set 0 0 prog |>.set 1 0 w |>.set 2 0 A |>.set 3 0 E |>.set 4 0 s |>.set 18 0 env |>.set 5 0 h₀ |>.set 6 0 L |>.set 8 3 elt |>.set 8 4 iter |>.set 8 5 c |>.set 19 7 b |>.set 56 1 pa |>.set 56 2 pb |>.set 56 3 tp |>.set 12 12 kk |>.set 43 1 scope |>.set 44 0 cl |>.set 56 0 pos |>.set 6 16 l1 |>.set 6 17 l2 |>.set 12 11 n1 |>.set 12 1 n2 |>.set 23 4 xs |>.set 23 5 ys |>.set 7 0 m |>.set 22 2 news |>.set 3 1 Q |>.set 59 0 J) a hh F N h1 h2 hlen hz hcell hkind hxa hxb hab J0 step done
end
end Mine
namespace Mine
theorem ne_app {P:Addr} {a b:Led} (h1:∀ q∈a,@Ne Nat q.1 P) (h2:∀ q∈b,@Ne Nat q.1 P) : ∀ q∈a++b,@Ne Nat q.1 P:=fun q hq=>(List.mem_append.mp hq).elim (h1 q) (h2 q)
theorem ne_con {P a:Addr} {o:Obj} {b:Led} (h1 : @Ne Nat a P) (h2:∀ q∈b,@Ne Nat q.1 P) : ∀ q∈(a,o)::b,@Ne Nat q.1 P:=fun q hq=>by
  rcases List.mem_cons.mp hq with rfl | hq
  · exact h1
  · exact h2 q hq
theorem ne_nl {P:Addr} : ∀ q∈([] : Led),@Ne Nat q.1 P:=fun _ h=>nomatch h
theorem upd1 {a:Str} {A A':Option Value} {M:Str→Option Value} : (fun y=>if y=a then A else if y=a then A' else M y)=fun y=>if y=a then A else M y:=funext fun y=>by
  by_cases h:y=a
  · rw [if_pos h,if_pos h]
  · rw [if_neg h,if_neg h,if_neg h]
theorem upd2 {a b:Str} {A B A' B':Option Value} {M:Str→Option Value} : (fun y=>if y=a then A else if y=b then B else if y=a then A' else if y=b then B' else M y)=fun y=>if y=a then A else if y=b then B else M y:=funext fun y=>by
  by_cases h:y=a
  · rw [if_pos h,if_pos h]
  · by_cases k:y=b
    · simp only [if_neg h,if_pos k]
    · simp only [if_neg h,if_neg k]
theorem upd9 {a:Str} {M:Str→Option Value} (e:M a=none) : M=fun y=>if y=a then none else M y:=funext fun y=>by
  by_cases h:y=a
  · rw [if_pos h,h,e]
  · rw [if_neg h]
theorem upd0 {a b:Str} {M:Str→Option Value} (e:M a=none) (k:M b=none) : M=fun y=>if y=a then none else if y=b then none else M y:=(upd9 e).trans (funext fun y=>by rw [← show M y=if y=b then none else M y from congrFun (upd9 k) y])
theorem wpx {α:Type} {M:Model} {A:Around} {t u:Sem α} {Q:α→Shared→Prop} {E:Value→Shared→Prop} {s:Shared} (e:t=u) (h:wpAny M A u Q E s) : wpAny M A t Q E s:=e ▸ h
theorem two_at {A:Ad} {i:Nat} {v:Value} (hv : [Value.ref (A.b 0),.ref (A.b 1)][i]?=some v) : ∃ j:Int,j∈sides∧j=(i:Int)∧v=.ref (A.b j):=by
  match i,hv with
  | 0,hv=>exact ⟨0,by decide,rfl,by cases hv;rfl⟩
  | 1,hv=>exact ⟨1,by decide,rfl,by cases hv;rfl⟩
namespace Z0
theorem c_ids_take:∀ p i' k,P_ids_take  p i' k:=by
  intro p i' k hi e
  have h:ids.take (k+1)=ids.take k++[i']:=by
    rcases ids4 hi with rfl | rfl | rfl | rfl
    · obtain rfl:k=0:=Int.ofNat.inj e
      rfl
    · obtain rfl:k=1:=Int.ofNat.inj e
      rfl
    · obtain rfl:k=2:=Int.ofNat.inj e
      rfl
    · obtain rfl:k=3:=Int.ofNat.inj e
      rfl
  rw [h,List.filter_append,List.filter_cons,List.filter_nil]
end Z0
theorem h_55:∀ j,j<55→∀ u,Pf j u:=histS 54 h_54 (gen 54 h_54 (by with_unfolding_all exact Z0.c_ids_take))
theorem ids_take {p:Int→Bool} {i':Int} {k:Nat} : P_ids_take p i' k:=by with_unfolding_all exact h_55 54 (Nat.lt_succ_self 54) (sk0) p i' k
section
variable {prog:Program} {w:World} {A0:Around} {E:Value→Shared→Prop} {s:Shared} {h₀:Heap} {L l:Addr} {news:Led} {n n2:Nat} {value slice:PySem.Expr} {Q:Value→Shared→Prop} {j i k:Int} {t:Tok} {x:Int→Addr} {hm p:Int→Int} {u u':Int→Tok} {s0 s1:Tok} {a b:Addr} {vs us:List Value} {ns:List Int}
theorem so_true {σ:Sg} {i j:Int} (_:σ.home i=-1∨σ.home i∈sides) (_:σ.home j=-1∨σ.home j∈sides) : (decide (σ.home i=σ.home j∧σ.pos i=σ.pos j) == (σ.home i == σ.home j && σ.pos i == σ.pos j))=true:=by
  by_cases h1:σ.home i=σ.home j <;> by_cases h2:σ.pos i=σ.pos j <;> simp [h1,h2]
theorem sub_row0 (N:News h₀ L s.heap news) (o:TupSpec x hm p u u') (hi:i∈ids) (h0:(x 0,tupO (hm 0) (p 0) (u 0) (u' 0))∈news) (h1:(x 1,tupO (hm 1) (p 1) (u 1) (u' 1))∈news) (h2:(x 2,tupO (hm 2) (p 2) (u 2) (u' 2))∈news) (h3:(x 3,tupO (hm 3) (p 3) (u 3) (u' 3))∈news) (hq:Q (.int (hm i) (u i)) s)
    (hs:subscripted slice false (.ref (x i)) (.int 0 t)=operate [.ref (x i),.int 0 t] (getItem (.ref (x i)) (.int 0 t))) (hg:∀ z,letTemporaryGo value (.ref (x i)) z=pure ()) : wpAny (model prog w) A0 (subscriptTail value slice (.ref (x i)) (.int 0 t)) Q E s :=
  item_tuple (j:=0) ⟨_,(N _ (mem_tup o hi h0 h1 h2 h3)).1,rfl,0,rfl⟩ (by omega) (by omega) rfl rfl hq hs hg
theorem sub_row1 (N:News h₀ L s.heap news) (o:TupSpec x hm p u u') (hi:i∈ids) (h0:(x 0,tupO (hm 0) (p 0) (u 0) (u' 0))∈news) (h1:(x 1,tupO (hm 1) (p 1) (u 1) (u' 1))∈news) (h2:(x 2,tupO (hm 2) (p 2) (u 2) (u' 2))∈news) (h3:(x 3,tupO (hm 3) (p 3) (u 3) (u' 3))∈news) (hq:Q (.int (p i) (u' i)) s)
    (hs:subscripted slice false (.ref (x i)) (.int 1 t)=operate [.ref (x i),.int 1 t] (getItem (.ref (x i)) (.int 1 t))) (hg:∀ z,letTemporaryGo value (.ref (x i)) z=pure ()) : wpAny (model prog w) A0 (subscriptTail value slice (.ref (x i)) (.int 1 t)) Q E s :=
  item_tuple (j:=1) ⟨_,(N _ (mem_tup o hi h0 h1 h2 h3)).1,rfl,0,rfl⟩ (by omega) (by omega) rfl rfl hq hs hg
theorem sub4_0 {a b c d:Value} (N:News h₀ L s.heap news) (h:(l,listOf #[a,b,c,d] n)∈news) (hq:Q a s)
    (hs:subscripted slice false (.ref l) (.int 0 t)=operate [.ref l,.int 0 t] (getItem (.ref l) (.int 0 t))) (hg:∀ z,letTemporaryGo value (.ref l) z=pure ()) : wpAny (model prog w) A0 (subscriptTail value slice (.ref l) (.int 0 t)) Q E s :=
  item_list ⟨_,(N _ h).1,rfl,n,rfl⟩ (by omega) (by omega) rfl hq hs hg
theorem sub4_1 {a b c d:Value} (N:News h₀ L s.heap news) (h:(l,listOf #[a,b,c,d] n)∈news) (hq:Q b s)
    (hs:subscripted slice false (.ref l) (.int 1 t)=operate [.ref l,.int 1 t] (getItem (.ref l) (.int 1 t))) (hg:∀ z,letTemporaryGo value (.ref l) z=pure ()) : wpAny (model prog w) A0 (subscriptTail value slice (.ref l) (.int 1 t)) Q E s :=
  item_list ⟨_,(N _ h).1,rfl,n,rfl⟩ (by omega) (by omega) rfl hq hs hg
theorem sub4_2 {a b c d:Value} (N:News h₀ L s.heap news) (h:(l,listOf #[a,b,c,d] n)∈news) (hq:Q c s)
    (hs:subscripted slice false (.ref l) (.int 2 t)=operate [.ref l,.int 2 t] (getItem (.ref l) (.int 2 t))) (hg:∀ z,letTemporaryGo value (.ref l) z=pure ()) : wpAny (model prog w) A0 (subscriptTail value slice (.ref l) (.int 2 t)) Q E s :=
  item_list ⟨_,(N _ h).1,rfl,n,rfl⟩ (by omega) (by omega) rfl hq hs hg
theorem sub4_3 {a b c d:Value} (N:News h₀ L s.heap news) (h:(l,listOf #[a,b,c,d] n)∈news) (hq:Q d s)
    (hs:subscripted slice false (.ref l) (.int 3 t)=operate [.ref l,.int 3 t] (getItem (.ref l) (.int 3 t))) (hg:∀ z,letTemporaryGo value (.ref l) z=pure ()) : wpAny (model prog w) A0 (subscriptTail value slice (.ref l) (.int 3 t)) Q E s :=
  item_list ⟨_,(N _ h).1,rfl,n,rfl⟩ (by omega) (by omega) rfl hq hs hg
theorem sub2_0 {a b:Value} (N:News h₀ L s.heap news) (h:(l,listOf #[a,b] n)∈news) (hq:Q a s)
    (hs:subscripted slice false (.ref l) (.int 0 t)=operate [.ref l,.int 0 t] (getItem (.ref l) (.int 0 t))) (hg:∀ z,letTemporaryGo value (.ref l) z=pure ()) : wpAny (model prog w) A0 (subscriptTail value slice (.ref l) (.int 0 t)) Q E s :=
  item_list ⟨_,(N _ h).1,rfl,n,rfl⟩ (by omega) (by omega) rfl hq hs hg
theorem sub_spots {f:Int→Int} (N:News h₀ L s.heap news) (h:(l,listOf #[.int (f 0) s0,.int (f 1) s1] n)∈news) (hj:j∈sides) (hq:Q (.int (f j) (if j=0 then s0 else s1)) s)
    (hs:subscripted slice false (.ref l) (.int j t)=operate [.ref l,.int j t] (getItem (.ref l) (.int j t))) (hg:∀ z,letTemporaryGo value (.ref l) z=pure ()) : wpAny (model prog w) A0 (subscriptTail value slice (.ref l) (.int j t)) Q E s :=
  item_list ⟨_,(N _ h).1,rfl,n,rfl⟩ (sides_iff.mp hj).1 (by have:=sides_iff.mp hj;omega) (side_get (f:=fun j=>.int (f j) (if j=0 then s0 else s1)) hj) hq hs hg
theorem ne_same (N:News h₀ L s.heap news) (h1:(a,listOf (List.toArray vs) n)∈news) (hi:IntsAre vs ns) (h2:(b,listOf (List.toArray us) n2)∈news) (hi2:IntsAre us ns) (hu:A0.units+64<cLine) (h:Q (.bool false) s) : wpAny (model prog w) A0 (compareOp .NotEq (.ref a) (.ref b)) Q E s :=
  ne_intsK ⟨_,(N _ h1).1,rfl,n,rfl⟩ hi ⟨_,(N _ h2).1,rfl,n2,rfl⟩ hi2 hu (by simpa using h)
end
section
variable {w:World} {A:Ad} {σ:Sg} {bl sp ow hl:Addr} {x:Int→Addr} {u u':Int→Tok} {nb ns no nh:Nat} {s0 s1:Tok}
theorem kw71_1:True:=by
  k_with "eval Name" => ((fail_if_success have:=@e71_1);k_here;(with_reducible show wpAny _ _ (eval (Expr.Name _ _) (envOfC _ _ _ _ _)) _ _ _);k_dflt (first | (refine' nameC_L ?k1 ?k2 ?_;(case k1=>k_asm);(case k2=>exact rfl);k_whole) | (refine' nameC_C ?k1 ?k2 ?k3 ?k4 ?_;(case k1=>k_asm);(case k2=>exact rfl);(case k3=>k_mem);(case k4=>assumption);k_whole)))
  k_with "assign Tuple" => ((fail_if_success have:=@e71_1);k_here;k_dflt (refine' unpack_tup ?F ?N ?sp ?hi ?h0 ?h1 ?h2 ?h3 ?hh ?hn ?hs ?_;(case sp=>assumption);(case F=>k_asm);(case N=>k_asm);(case hi=>assumption);(case h0=>k_mem);(case h1=>k_mem);(case h2=>k_mem);(case h3=>k_mem);(case hh=>exact rfl);(case hn=>exact rfl);(case hs=>exact rfl);k_whole);intro h' F' N')
  k_with "subscriptTail Name Name ref int" => ((fail_if_success have:=@e71_1);k_here;k_dflt (refine' sub_both ?N ?o ?l ?v ?_ ?s ?t;(case o=>assumption);(case N=>k_asm);(case l=>k_mem);(case v=>first | assumption | decide);k_extra "tl"))
  k_with "subscriptTail Name Name ref int" => ((fail_if_success have:=@e71_1);k_here;k_dflt (refine' sub_own ?N ?o ?l ?v ?_ ?s ?t;(case o=>assumption);(case N=>k_asm);(case l=>k_mem);(case v=>first | assumption | decide);k_extra "tl"))
  k_with "subscriptTail Name Name ref int" => ((fail_if_success have:=@e71_1);k_here;k_dflt (refine' sub_homes ?N ?o ?l ?v ?_ ?s ?t;(case o=>assumption);(case N=>k_asm);(case l=>k_mem);(case v=>first | assumption | decide);k_extra "tl"))
  k_with "subscriptTail Name Constant ref int" => ((fail_if_success have:=@e71_1);k_here;k_dflt (refine' sub_both ?N ?o ?l ?v ?_ ?s ?t;(case o=>assumption);(case N=>k_asm);(case l=>k_mem);(case v=>first | assumption | decide);k_extra "tl"))
  k_with "subscriptTail Name Constant ref int" => ((fail_if_success have:=@e71_1);k_here;k_dflt (refine' sub_own ?N ?o ?l ?v ?_ ?s ?t;(case o=>assumption);(case N=>k_asm);(case l=>k_mem);(case v=>first | assumption | decide);k_extra "tl"))
  k_with "subscriptTail Name Constant ref int" => ((fail_if_success have:=@e71_1);k_here;k_dflt (refine' sub_homes ?N ?o ?l ?v ?_ ?s ?t;(case o=>assumption);(case N=>k_asm);(case l=>k_mem);(case v=>first | assumption | decide);k_extra "tl"))
  k_with "subscriptTail Name Name ref int" => ((fail_if_success have:=@e71_1);k_here;k_dflt (refine' sub_spots (f:=Sg.point _) ?N ?l ?v ?_ ?s ?t;(case N=>k_asm);(case l=>k_mem);(case v=>assumption);k_extra "tl"))
  k_with "compareOp NotEq ref ref" => ((fail_if_success have:=@e71_1);k_here;(with_reducible show wpAny _ _ (compareOp CmpOp.NotEq (Value.ref _) (Value.ref _)) _ _ _);k_dflt (refine' ne_same ?N ?h1 ?hi ?h2 ?hi2 ?hu ?_;(case N=>k_asm);(case h1=>k_mem);(case hi=>assumption);(case h2=>k_mem);(case hi2=>assumption);(case hu=>units_room);k_whole))
  k_with "call ref" => ((fail_if_success have:=@e71_1);k_here;(with_reducible show wpAny _ _ (call (Value.ref 62) _) _ _ _);k_dflt (refine' Spec.useC (ledx:=[]) (st_place0 ?y0 ?y1 ?y2 _ ?hS) ?B ?F ?X ?N ?C ?P ?hr ?T ?hk ?hd ?hu ?_;k_extra "us2";(case y0=>assumption);(case y1=>assumption);(case y2=>first | exact rfl | assumption);(case hr=>k_extra "h1");k_whole);intro v9 led9 h' tk' hP9;refine oa2 hP9 ?_;(try clear hP9);intro z10 hl9;refine oe1 z10 ?_;(try clear z10);intro t9 hv9;subst hv9;subst hl9;intro F' N';(replace N':=reorder (a:=[]) N');k_extra "nn")
  k_with "call ref" => ((fail_if_success have:=@e71_1);k_here;(with_reducible show wpAny _ _ (call (Value.ref 277) _) _ _ _);k_dflt (refine' Spec.useC (ledx:=[]) (st_numbers ?y0 ?y1 _ ?hS) ?B ?F ?X ?N ?C ?P ?hr ?T ?hk ?hd ?hu ?_;k_extra "us2";(case y0=>assumption);(case y1=>assumption);(case hr=>k_extra "h1");k_whole);intro v9 led9 h' tk' hP9;refine oe3 hP9 ?_;(try clear hP9);intro D9 vs9 c9 z0;refine oa3 z0 ?_;(try clear z0);intro hv9 hl9 i9;subst hv9;subst hl9;intro F' N';(replace N':=reorder (a:=[]) N');k_extra "nn")
  k_with "call ref" => ((fail_if_success have:=@e71_1);k_here;(with_reducible show wpAny _ _ (call (Value.ref 76) _) _ _ _);k_dflt (refine' Spec.useC (ledx:=[]) (st_same0 ?y0 ?y1 ?y2 ?y3 ?y4 _ ?hS) ?B ?F ?X ?N ?C ?P ?hr ?T ?hk ?hd ?hu ?_;k_extra "us2";(case y0=>assumption);(case y1=>decide);(case y2=>decide);(case y3=>assumption);(case y4=>assumption);(case hr=>k_extra "h1");k_whole);intro v9 led9 h' tk' hP9;refine oa2 hP9 ?_;(try clear hP9);intro hv9 hl9;subst hv9;subst hl9;intro F' N';(replace N':=reorder (a:=[]) N');k_extra "nn")
  k_with "call ref" => ((fail_if_success have:=@e71_1);k_here;(with_reducible show wpAny _ _ (call (Value.ref 62) _) _ _ _);k_dflt (refine' SpecR.use (r_place ?y0 ?y1 _ ?hS) ?B ?F ?X ?N ?k ?T ?hk ?hd ?hu ?_;(case y0=>assumption);(case y1=>assumption);(case hS=>assumption);k_extra "us4";(case k=>(k_extra "opq"));k_extra "us5";k_whole);intro G9 e9 d9 od9 h' tk' FG9 U9 S9 R9;(try dsimp only))
  trivial
end
section
namespace Z0
theorem c_is_so:∀ rest,P_is_so w A σ bl sp ow hl x u u' nb (k12 14) (k12 15) (k12 16) (k14 26) (k14 27) S Tl p loose mean mg mb dp un gd cn cs a ccd cl outer A₀ base h₀ L m s Q E rest:=by
  intro rest ok hgood hS hT B F X N Tp XB TB D hCd hr hk hd hu ret
  simp only [List.cons_append,List.nil_append,List.append_assoc] at N
  revert X;k_fill;intro X
  refine wpAny_call ?_
  k_dflt (refine' enterXC (cm':=fun _=>none) (m':=fun y=>if y=ofString "homes" then some (.ref hl) else if y=ofString "own" then some (.ref ow) else if y=ofString "spots" then some (.ref sp) else if y=ofString "both" then some (.ref bl) else none) ?k1 ?k2 ?k3 ?k4 ?k5 ?XB ?TB ?D ?kA ?kF ?kK ?k6 ?k7 ?k8 ?k9 ?kB ?kD ?kM ?kCM ?_ ?c2 ?c3 ?c4;(case kA=>exact rfl);(case kF=>exact rfl);(case kK=>assumption);(case k1=>k_asm);(case k2=>k_asm);(case k3=>k_asm);(case k4=>k_asm);(case k5=>k_asm);(case XB=>assumption);(case TB=>assumption);(case D=>assumption);(case k6=>k_is);(case k7=>k_is);(case k8=>ktr_room);(case k9=>exact BindsTo.of_eq rfl);(case kB=>exact rfl);(case kD=>decide +kernel);(case kM=>intro _;exact rfl);(case kCM=>intro _;exact rfl);(case c2=>exact rfl);(case c3=>exact rfl);(case c4=>exact rfl);k_whole;intro g' L' h' tk' cells' P' leave9 FG' F' N' Y' B' X' T' D' l1;k_cells Y';(try simp only [List.cons_append,List.nil_append] at N');(try dsimp only);(try k_fold))
  have b1 : @LT.lt Nat _ bl L':=l1 (bl,_) (by k_mem)
  have b2 : @LT.lt Nat _ sp L':=l1 (sp,_) (by k_mem)
  have b3 : @LT.lt Nat _ ow L':=l1 (ow,_) (by k_mem)
  have b4 : @LT.lt Nat _ hl L':=l1 (hl,_) (by k_mem)
  have b5 : @LT.lt Nat _ (x 0) L':=l1 (x 0,_) (by k_mem)
  have b6 : @LT.lt Nat _ (x 1) L':=l1 (x 1,_) (by k_mem)
  have b7 : @LT.lt Nat _ (x 2) L':=l1 (x 2,_) (by k_mem)
  have b8 : @LT.lt Nat _ (x 3) L':=l1 (x 3,_) (by k_mem)
  have b9:∀ q∈S++(Tl++rest),@LT.lt Nat _ q.1 L':=fun q hq=>l1 q ((by k_extra "sb" : ∀ p∈S++(Tl++rest),p∈_) q hq)
  have b529 : @LT.lt Nat _ 529 L':=by
    refine oe2 hT ?_;(try clear hT);intro ps0 codes0 z0;refine oa2 z0 ?_;(try clear z0);intro z0 _
    exact b9 (529,tabObj ps0) (by rw [z0];simp only [List.mem_append,List.mem_cons,List.cons_append,true_or,or_true])
  obtain ⟨K0,hK0⟩ : ∃ K0,K0=Tl.map (·.1):=⟨_,rfl⟩
  have hKl:∀ q:Addr,q∈K0→@LT.lt Nat _ q L':=fun q hq=>by
    rw [hK0] at hq
    refine oe1 (List.mem_map.mp hq) ?_;intro q2 z0;refine oa2 z0 ?_;(try clear z0);intro h2 z11;obtain rfl:=z11
    exact b9 q2 (List.mem_append.mpr (.inr (List.mem_append.mpr (.inl h2))))
  k_steps
  refine For_X ?_
  k_steps
  rename Fr _ _ _ _=>F9
  rename News _ _ _ _=>N9
  refine zipX (xs:=four fun i=>.ref (A.ma i)) (ys:=four fun i=>.ref (x i)) (fun h=>KtsTurn ((envX cn cs L a ccd cl::outer).filterMap (·.frame)) g' h∧Below (ktrTop dp un gd cn cs L a ccd cl outer) base (envX cn cs L a ccd cl::outer) h∧(Mine.hd.heap_1 w.params).In h∧Top p loose mean mg mb h∧KtsDicts ((envX cn cs L a ccd cl::outer).filterMap (·.frame)) h) rfl ⟨KtsTurn.refl,B',X',T',D'⟩ (fun h hh b hb=>hh.1.none_ b hb) F9 N9 (by k_mem) (by k_mem) rfl ?_
  intro I hI
  refine ⟨fun i m n=>∃ va vb om oa vm vA Tl,m=(fun y=>if y=ofString "place" then va else if y=ofString "home" then vb else (if y=ofString "homes" then some (.ref hl) else if y=ofString "own" then some (.ref ow) else if y=ofString "spots" then some (.ref sp) else if y=ofString "both" then some (.ref bl) else none))∧n=(L'+1+1,om)::(L'+1,oa)::(bl,listOf #[.ref (A.b 0),.ref (A.b 1)] nb)::(sp,listOf #[.int (σ.point 0) (k14 26),.int (σ.point 1) (k14 27)] (k12 14))::(ow,listOf #[.ref (A.ma 0),.ref (A.ma 1),.ref (A.ma 2),.ref (A.ma 3)] (k12 15))::(hl,listOf #[.ref (x 0),.ref (x 1),.ref (x 2),.ref (x 3)] (k12 16))::(x 0,tupO (σ.home 0) (σ.pos 0) (u 0) (u' 0))::(x 1,tupO (σ.home 1) (σ.pos 1) (u 1) (u' 1))::(x 2,tupO (σ.home 2) (σ.pos 2) (u 2) (u' 2))::(x 3,tupO (σ.home 3) (σ.pos 3) (u 3) (u' 3))::(S++(Tl++rest))∧om.data=.cell vm∧oa.data=.cell vA∧TabL 529 (ofString "_law_is_so.<locals>.<lambda>") Tl∧(∀ q∈Tl,q.1∈K0∨@LT.lt Nat _ (I+4) q.1),?_,?_,?_⟩
  · refine ⟨none,none,_,_,none,none,Tl,upd0 rfl rfl,rfl,by assumption,by assumption,hT,fun q hq=>.inl (hK0 ▸ List.mem_map.mpr ⟨q,hq,rfl⟩)⟩
  · intro i vx vy hx hy h₀1 T1 m₁ news₁ h₁ tk₁ own hC hT1 hJ
    refine oe7 hJ ?_;(try clear hJ);intro va vb om oa vm vA Tl1 z0;refine oa6 z0 ?_;(try clear z0);intro z12 z13 hom hoa hTl hTK;obtain rfl:=z12;obtain rfl:=z13
    intro hlt hown hof F1 N1 P9 next9
    have I2 : @LT.lt Nat _ (L'+1+1) I:=hI (L'+1+1,_) (.head _)
    have hTI:∀ q∈Tl1,@LT.lt Nat _ q.1 L'∨@LT.lt Nat _ (I+4) q.1:=fun q hq=>(hTK q hq).imp (hKl _) id
    refine oa5 hC ?_;(try clear hC);intro t1 B1 X1 T1' D1
    refine oe1 (four_at hx hy) ?_;intro i' z0;refine oa4 z0 ?_;(try clear z0);intro hi' hii z14 z15;obtain rfl:=z14;obtain rfl:=z15
    refine oe1 (hown I (by omega) (by omega)) ?_;intro oI hoI
    have N2:News h₀1 L' h₁ ((L'+1+1,om)::(L'+1,oa)::(bl,listOf #[.ref (A.b 0),.ref (A.b 1)] nb)::(sp,listOf #[.int (σ.point 0) (k14 26),.int (σ.point 1) (k14 27)] (k12 14))::(ow,listOf #[.ref (A.ma 0),.ref (A.ma 1),.ref (A.ma 2),.ref (A.ma 3)] (k12 15))::(hl,listOf #[.ref (x 0),.ref (x 1),.ref (x 2),.ref (x 3)] (k12 16))::(x 0,tupO (σ.home 0) (σ.pos 0) (u 0) (u' 0))::(x 1,tupO (σ.home 1) (σ.pos 1) (u 1) (u' 1))::(x 2,tupO (σ.home 2) (σ.pos 2) (u 2) (u' 2))::(x 3,tupO (σ.home 3) (σ.pos 3) (u 3) (u' 3))::(S++(Tl1++(rest++own)))):=News.sub N1 fun q hq=>by
      revert q;k_extra "sb"
    have m1:(x i',tupO (σ.home i') (σ.pos i') (u i') (u' i'))∈(L'+1+1,om)::(L'+1,oa)::(bl,listOf #[.ref (A.b 0),.ref (A.b 1)] nb)::(sp,listOf #[.int (σ.point 0) (k14 26),.int (σ.point 1) (k14 27)] (k12 14))::(ow,listOf #[.ref (A.ma 0),.ref (A.ma 1),.ref (A.ma 2),.ref (A.ma 3)] (k12 15))::(hl,listOf #[.ref (x 0),.ref (x 1),.ref (x 2),.ref (x 3)] (k12 16))::(x 0,tupO (σ.home 0) (σ.pos 0) (u 0) (u' 0))::(x 1,tupO (σ.home 1) (σ.pos 1) (u 1) (u' 1))::(x 2,tupO (σ.home 2) (σ.pos 2) (u 2) (u' 2))::(x 3,tupO (σ.home 3) (σ.pos 3) (u 3) (u' 3))::(S++(Tl1++(rest++own))):=by
      have:=ids4 hi'
      rcases this with rfl | rfl | rfl | rfl <;> simp
    have fr0:∀ q∈S++(Tl1++(rest++own)),@LT.lt Nat _ q.1 L'∨@LE.le Nat _ I q.1:=fun q hq=>by
      rcases List.mem_append.mp hq with h | h
      · exact .inl (b9 q (List.mem_append.mpr (.inl h)))
      · rcases List.mem_append.mp h with h | h
        · rcases hTI q h with h | h
          · exact .inl h
          · exact .inr (by omega)
        · rcases List.mem_append.mp h with h | h
          · exact .inl (b9 q (List.mem_append.mpr (.inr (List.mem_append.mpr (.inr h)))))
          · rcases hof q h with z | z | z
            · exact .inl (by rw [z];exact b3)
            · exact .inl (by rw [z];exact b4)
            · exact .inr z
    have fr1:∀ q∈S++(Tl1++(rest++own)),@Ne Nat q.1 (L'+1+1):=fun q hq=>by have:=fr0 q hq;omega
    have fr2:∀ q∈S++(Tl1++(rest++own)),@Ne Nat q.1 (L'+1):=fun q hq=>by have:=fr0 q hq;omega
    have ltall:∀ Tz:Led,(∀ q∈Tz,@LT.lt Nat _ q.1 L'∨@LT.lt Nat _ (I+4) q.1)→∀ q∈(bl,listOf #[.ref (A.b 0),.ref (A.b 1)] nb)::(sp,listOf #[.int (σ.point 0) (k14 26),.int (σ.point 1) (k14 27)] (k12 14))::(ow,listOf #[.ref (A.ma 0),.ref (A.ma 1),.ref (A.ma 2),.ref (A.ma 3)] (k12 15))::(hl,listOf #[.ref (x 0),.ref (x 1),.ref (x 2),.ref (x 3)] (k12 16))::(x 0,tupO (σ.home 0) (σ.pos 0) (u 0) (u' 0))::(x 1,tupO (σ.home 1) (σ.pos 1) (u 1) (u' 1))::(x 2,tupO (σ.home 2) (σ.pos 2) (u 2) (u' 2))::(x 3,tupO (σ.home 3) (σ.pos 3) (u 3) (u' 3))::(S++(Tz++rest)),@LT.lt Nat _ q.1 I∨@LT.lt Nat _ (I+4) q.1:=fun Tz hz q hq=>by
      simp only [List.mem_cons,List.mem_append] at hq
      rcases hq with rfl | rfl | rfl | rfl | rfl | rfl | rfl | rfl | h | h | h
      · left;show @LT.lt Nat _ bl I;omega
      · left;show @LT.lt Nat _ sp I;omega
      · left;show @LT.lt Nat _ ow I;omega
      · left;show @LT.lt Nat _ hl I;omega
      · left;show @LT.lt Nat _ (x 0) I;omega
      · left;show @LT.lt Nat _ (x 1) I;omega
      · left;show @LT.lt Nat _ (x 2) I;omega
      · left;show @LT.lt Nat _ (x 3) I;omega
      · have:=b9 q (List.mem_append.mpr (.inl h));left;omega
      · rcases hz q h with z | z
        · left;omega
        · exact .inr z
      · have:=b9 q (List.mem_append.mpr (.inr (List.mem_append.mpr (.inr h))));left;omega
    clear N1
    have tsp:TupSpec x σ.home σ.pos u u':=⟨trivial⟩
    rcases hgood i' hi' with e | e
    · have eb:bufV A (σ.home i')=.none:=by rw [e];rfl
      k_steps
      rename Fr _ _ _ _=>F7
      rename News _ _ _ _=>N7
      refine' lam_makeN (c:=531) (P:=529) (Tl:=Tl1) (qual:=(ofString "_law_is_so.<locals>.<lambda>")) ?F ?N ?c ?T ?C ?cd ?hT ?hr ?df ?q ?cl ?_
      (case F=>exact F7)
      (case N=>exact N7)
      (case c=>(repeat' first | exact CutA.here | refine' CutA.step ?_ | refine' CutA.app ?_))
      (case T=>exact T1')
      (case C=>exact hCd.keeps B1.stays)
      (case cd=>rfl)
      (case hT=>exact hTl)
      (case hr =>
        simp only [List.cons_append,List.append_assoc,List.nil_append,List.append_nil]
        repeat' first | refine ne_con ?_ ?_ | refine ne_app ?_ ?_
        all_goals first | exact hr (_,_) (by k_extra "mem") | exact fun q hq=>hr q ((by k_extra "opq" : ∀ p∈S,p∈_) q hq) | exact fun q hq=>hr q ((by k_extra "opq" : ∀ p∈rest,p∈_) q hq) | (show @Ne Nat _ 529;omega) | skip
        intro q h
        rcases hof q h with z | z | z
        · exact z ▸ hr (ow,_) (by k_extra "mem")
        · exact z ▸ hr (hl,_) (by k_extra "mem")
        · show @Ne Nat q.1 529;omega)
      (case df=>rfl)
      (case q=>rfl)
      (case cl=>rfl)
      intro f9 c9 ctv9 pm9 Tl2 h' tk' hT2 F' N' hcode hlt9 hnew9
      simp only [List.cons_append,List.nil_append,List.append_assoc] at N'
      k_steps
      k_here
      k_dflt (refine' x_refusedN (dz:=8) ?B ?F ?X ?N ?T ?XB ?TB ?D ?hfn ?hfo ?S ?hk ?hd ?hu ?_;k_extra "us4";(case T=>k_asm);(case XB=>exact XB);(case TB=>exact TB);(case D=>exact D1);(case hfn=>exact .head _);(case hfo=>exact rfl);(case hk=>exact rfl);(case hd=>ktr_room);(case hu=>ktr_units);k_whole)
      case S =>
        intro p2 loose2 mean2 mg2 mb2 dp2 un2 gd2 cn2 cs2 a2 ccd2 cl2 outer2 A2 base2 h2 L2 m2 rest2 s2 Q2 E2 B F X N Tp hk hd hu ret2
        refine wpAny_call (kla_code B F X N Tp rfl rfl hk (.head _) ?_ (show dp2<recursionLimit by omega) rfl (by intro y hy;cases hy) ?_ rfl rfl rfl ?_)
        · refine oe3 hcode ?_;(try clear hcode);intro oc vs t z0;refine oa3 z0 ?_;(try clear z0);intro z1 z2 z3
          exact ⟨c9,oc,vs,t,rfl,(N (c9,oc) ((by k_extra "opq" : ∀ p∈Tl2,p∈_) _ z1)).1,z2,z3⟩
        · intro g3 L3 h3 FG3 F3 N3 B3 X3 T3
          simp only [List.cons_append,List.nil_append,List.append_assoc] at N3
          k_steps
          rename RaisedD _ _ _ _ _ _ _=>R9
          rename Heap.UpToSlots _ _=>U9
          rename SymOk _=>S9
          rename Fr _ _ _ _=>FG9
          refine' raised_on ?K ?F ?hf ?R ?U ?_
          (case K=>exact B3)
          (case F=>exact FG9)
          (case hf=>exact rfl)
          (case R=>exact R9)
          (case U=>exact U9)
          intro h9 R8 U8
          exact ret2 _ _ _ _ h9 _ FG3 U8 S9 (R8.sub fun q hq=>by simpa only [List.cons_append,List.nil_append,List.append_assoc] using hq)
        · decide
      intro h₀2 h2 tk2 t2 F' N' B2 X2 T2 D2
      k_steps
      have tlp:∀ q∈Tl2,q.1∈K0∨@LT.lt Nat _ (I+4) q.1:=fun q hq=>by
        rcases hnew9 q hq with z | z
        · refine oe1 (List.mem_map.mp z) ?_;intro q2 z0;refine oa2 z0 ?_;(try clear z0);intro hq2 e2
          rw [← e2]
          exact hTK q2 hq2
        · refine oe1 (hown (I+4) (by omega) (by omega)) ?_;intro o4 ho4
          exact .inr (z (I+4,o4) ((by k_extra "opq" : ∀ p∈own,p∈_) _ ho4))
      rename Fr _ _ _ _=>F7
      rename News _ _ _ _=>N7
      refine' next9 _ _ _ _ _ ⟨t1.trans t2,B2,X2,T2,D2⟩ F7 (News.sub N7 ?N) ?lt ⟨some (.int (σ.pos i') (u' i')),some (.int (σ.home i') (u i')),_,oa,_,_,Tl2,?m,rfl,?om,hoa,hT2,?tl⟩
      (case om=>assumption)
      (case N=>(intro q hq;revert q;k_extra "sb"))
      (case m=>exact upd2)
      (case tl=>exact tlp)
      (case lt=>(intro q hq;rcases List.mem_cons.mp hq with rfl | hq;(exact .inl I2);rcases List.mem_cons.mp hq with rfl | hq;(left;show @LT.lt Nat _ (L'+1) I;omega);exact ltall Tl2 (fun q hq=>(tlp q hq).imp (hKl _) id) q hq))
    · have eb:bufV A (σ.home i')=.ref (A.b (σ.home i')):=bufV_side e
      have es:=sides_iff.mp e
      k_steps
      · rename Fr _ _ _ _=>F7
        rename News _ _ _ _=>N7
        refine' next9 _ _ _ _ _ ⟨t1,B1,X1,T1',D1⟩ F7 (News.sub N7 ?N) ?lt ⟨some (.int (σ.pos i') (u' i')),some (.int (σ.home i') (u i')),_,oa,_,_,Tl1,?m,rfl,?om,hoa,hTl,?tl⟩
        (case om=>assumption)
        (case N=>(intro q hq;revert q;k_extra "sb"))
        (case m=>exact upd2)
        (case tl=>exact hTK)
        (case lt=>(intro q hq;rcases List.mem_cons.mp hq with rfl | hq;(exact .inl I2);rcases List.mem_cons.mp hq with rfl | hq;(left;show @LT.lt Nat _ (L'+1) I;omega);exact ltall Tl1 hTI q hq))
  · intro h₀1 h1 tk1 m1 news1 hC F1 N1 hJ
    refine oe7 hJ ?_;(try clear hJ);intro va vb om oa vm vA Tl1 z0;refine oa6 z0 ?_;(try clear z0);intro z16 z17 hom hoa hTl hTK;obtain rfl:=z16;obtain rfl:=z17
    have hTI:∀ q∈Tl1,@LT.lt Nat _ q.1 L'∨@LT.lt Nat _ (I+4) q.1:=fun q hq=>(hTK q hq).imp (hKl _) id
    refine oa5 hC ?_;(try clear hC);intro t1 B1 X1 T1' D1
    k_steps
    refine For_X ?_
    k_steps
    rename Fr _ _ _ _=>F8
    rename News _ _ _ _=>N8
    refine enumX (xs:=[.ref (A.b 0),.ref (A.b 1)]) (fun h=>KtsTurn ((envX cn cs L a ccd cl::outer).filterMap (·.frame)) h₀1 h∧Below (ktrTop dp un gd cn cs L a ccd cl outer) base (envX cn cs L a ccd cl::outer) h∧(Mine.hd.heap_1 w.params).In h∧Top p loose mean mg mb h∧KtsDicts ((envX cn cs L a ccd cl::outer).filterMap (·.frame)) h) rfl ⟨KtsTurn.refl,B1,X1,T1',D1⟩ (fun h hh b hb=>hh.1.none_ b hb) F8 N8 (by k_mem) ?_
    have I2f : @LT.lt Nat _ (L'+1+1) I:=hI (L'+1+1,_) (.head _)
    intro I' hI'
    refine ⟨fun i m n=>∃ va vb vc om oa vm vA,m=(fun y=>if y=ofString "buffer" then vc else if y=ofString "place" then va else if y=ofString "home" then vb else (if y=ofString "homes" then some (.ref hl) else if y=ofString "own" then some (.ref ow) else if y=ofString "spots" then some (.ref sp) else if y=ofString "both" then some (.ref bl) else none))∧n=(L'+1+1,om)::(L'+1,oa)::(bl,listOf #[.ref (A.b 0),.ref (A.b 1)] nb)::(sp,listOf #[.int (σ.point 0) (k14 26),.int (σ.point 1) (k14 27)] (k12 14))::(ow,listOf #[.ref (A.ma 0),.ref (A.ma 1),.ref (A.ma 2),.ref (A.ma 3)] (k12 15))::(hl,listOf #[.ref (x 0),.ref (x 1),.ref (x 2),.ref (x 3)] (k12 16))::(x 0,tupO (σ.home 0) (σ.pos 0) (u 0) (u' 0))::(x 1,tupO (σ.home 1) (σ.pos 1) (u 1) (u' 1))::(x 2,tupO (σ.home 2) (σ.pos 2) (u 2) (u' 2))::(x 3,tupO (σ.home 3) (σ.pos 3) (u 3) (u' 3))::(S++(Tl1++rest))∧om.data=.cell vm∧oa.data=.cell vA,?_,?_,?_⟩
    · exact ⟨va,vb,none,om,oa,vm,vA,upd9 rfl,rfl,hom,hoa⟩
    · intro i v hv h₀2 T t m₁ news₁ h₁ tk₁ own hC hT2 hJ
      refine oe7 hJ ?_;(try clear hJ);intro va vb vc om oa vm vA z0;refine oa4 z0 ?_;(try clear z0);intro z18 z19 hom hoa;obtain rfl:=z18;obtain rfl:=z19
      intro hlt hown hof F1 N1 P9 next9
      refine oa5 hC ?_;(try clear hC);intro t2 B2 X2 T2' D2
      obtain ⟨j,hj,hji,rfl⟩:=two_at hv
      rw [← hji] at hT2
      have I2 : @LT.lt Nat _ (L'+1+1) I':=hI' (L'+1+1,_) (.head _)
      have N2:News h₀2 L' h₁ ((L'+1+1,om)::(L'+1,oa)::(bl,listOf #[.ref (A.b 0),.ref (A.b 1)] nb)::(sp,listOf #[.int (σ.point 0) (k14 26),.int (σ.point 1) (k14 27)] (k12 14))::(ow,listOf #[.ref (A.ma 0),.ref (A.ma 1),.ref (A.ma 2),.ref (A.ma 3)] (k12 15))::(hl,listOf #[.ref (x 0),.ref (x 1),.ref (x 2),.ref (x 3)] (k12 16))::(x 0,tupO (σ.home 0) (σ.pos 0) (u 0) (u' 0))::(x 1,tupO (σ.home 1) (σ.pos 1) (u 1) (u' 1))::(x 2,tupO (σ.home 2) (σ.pos 2) (u 2) (u' 2))::(x 3,tupO (σ.home 3) (σ.pos 3) (u 3) (u' 3))::(S++(Tl1++(rest++own)))):=News.sub N1 fun q hq=>by
        revert q;k_extra "sb"
      have fr0:∀ q∈S++(Tl1++(rest++own)),@LT.lt Nat _ q.1 (L'+1)∨@LT.lt Nat _ (L'+1+1) q.1:=fun q hq=>by
        rcases List.mem_append.mp hq with h | h
        · have:=b9 q (List.mem_append.mpr (.inl h));left;omega
        · rcases List.mem_append.mp h with h | h
          · rcases hTI q h with h | h
            · left;omega
            · right;omega
          · rcases List.mem_append.mp h with h | h
            · have:=b9 q (List.mem_append.mpr (.inr (List.mem_append.mpr (.inr h))));left;omega
            · rcases hof q h with z | z
              · left;rw [z];omega
              · right;omega
      have fr1:∀ q∈S++(Tl1++(rest++own)),@Ne Nat q.1 (L'+1+1):=fun q hq=>by have:=fr0 q hq;omega
      have fr2:∀ q∈S++(Tl1++(rest++own)),@Ne Nat q.1 (L'+1):=fun q hq=>by have:=fr0 q hq;omega
      clear N1
      k_steps
      refine wpx (eval_ListComp ..) ?_
      refine wpAny_comprehension_free (use:=none) (cl:=[(ofString "at",L'+1)]) rfl ?hs ?hclos rfl ?hnames ?_
      (case hs=>intro _;rfl)
      (case hclos=>rfl)
      (case hnames=>decide +kernel)
      refine wpx (arm_firstIter_cons ..) ?_
      k_steps
      rename Fr _ _ _ _=>F7
      rename News _ _ _ _=>N7
      refine' zipC (xs:=four fun i=>.ref (A.ma i)) (ys:=four fun i=>.ref (x i)) rfl F7 N7 ?l1 ?l2 rfl ?sz ?hcell rfl rfl rfl ?hab (fun k zs=>IntsAre zs ((ids.take k).filter (fun i=>decide (σ.home i=j)))) .nil ?step ?done
      (case l1=>k_mem)
      (case l2=>k_mem)
      (case sz=>exact Nat.le_of_ble_eq_true rfl)
      (case hcell=>decide +kernel)
      (case hab=>decide)
      case step =>
        intro k vx vy zs C oC D8 m₂ h tk hxy hJ hoC hma hmb F6 N6 hne P1 P2 E' f1 f2
        refine oe1 (four_at hxy.1 hxy.2) ?_;intro i' z0;refine oa4 z0 ?_;(try clear z0);intro hi' hii z20 z21;obtain rfl:=z20;obtain rfl:=z21
        have tsp:TupSpec x σ.home σ.pos u u':=⟨trivial⟩
        have tk1:=ids_take (p:=fun i=>decide (σ.home i=j)) hi' hii
        k_steps
        · rename σ.home i'=j=>z9
          refine f1 _ _ ?_
          rw [tk1,if_pos (decide_eq_true z9)]
          exact hJ.append (.cons i' _ .nil)
        · rename σ.home i'≠j=>z9
          refine f2 _ ?_
          rw [tk1,if_neg (by simpa using z9),List.append_nil]
          exact hJ
      case done =>
        intro D8 zs h tk hJ F6 N6
        have hJ':IntsAre zs (ids.filter (fun i=>decide (σ.home i=j))):=hJ
        k_steps
        · refine' next9 _ _ _ _ _ ⟨t2,B2,X2,T2',D2⟩ F6 (News.sub N6 ?N) ?lt ⟨va,vb,some (.ref (A.b j)),om,_,vm,_,?m,rfl,hom,?oa⟩
          (case oa=>assumption)
          (case N=>(intro q hq;revert q;k_extra "sb"))
          (case m=>exact upd1)
          (case lt=>(intro q hq;rcases List.mem_cons.mp hq with rfl | hq;(exact .inl I2);rcases List.mem_cons.mp hq with rfl | hq;(left;show @LT.lt Nat _ (L'+1) I';omega);exact .inl (hI' q (.tail _ (.tail _ hq)))))
    · intro h₀2 h2 tk2 m2 news2 hC F2 N2 hJ
      refine oe7 hJ ?_;(try clear hJ);intro va vb vc om oa vm vA z0;refine oa4 z0 ?_;(try clear z0);intro z22 z23 hom hoa;obtain rfl:=z22;obtain rfl:=z23
      refine oa5 hC ?_;(try clear hC);intro t2 B2 X2 T2' D2
      have hg0:=hgood 0 (by decide)
      have hg1:=hgood 1 (by decide)
      have hg2:=hgood 2 (by decide)
      k_steps
      · rename Fr _ _ _ _=>F7
        rename News _ _ _ _=>N7
        rw [so_true hg2 hg0]
        refine leave9 _ _ _ _ _ _ (t1.trans t2) F7 N7 fun h₀' a1 a2 a3 a4 a5 a6 a7=>?_
        refine ret Tl1 h₀' _ _ hTl (fun q hq=>(hTK q hq).imp (fun z=>hK0 ▸ z) fun z q2 hq2=>?_) a1 a2 (News.sub a3 ?_) a4 a5 a6 a7
        · have : @LT.lt Nat _ q2.1 L':=l1 q2 (by simpa only [List.cons_append,List.nil_append,List.append_assoc] using hq2)
          omega
        · intro q hq
          revert q;k_extra "sb"
end Z0
theorem h_56:∀ j,j<56→∀ u,Pf j u:=histS 55 h_55 (gen 55 h_55 (by with_unfolding_all exact Z0.c_is_so))
theorem is_so {w:World} {A:Ad} {σ:Sg} {bl sp ow hl:Addr} {x:Int→Addr} {u u':Int→Tok} {nb ns no nh:Nat} {s0 s1:Tok} (ok:A.Ok) (hgood:∀ i∈ids,σ.home i=-1∨σ.home i∈sides) (S Tl:Led) (hS:St w A σ S) (hT:TabL 529 (ofString "_law_is_so.<locals>.<lambda>") Tl) {p:Program} {loose:List Str} {mean:ExcName→Option Value} {mg mb:Str→Option Value} {dp un:Nat} {gd:Option (List Code)} {cn:Str} {cs:Scope} {a:Addr} {ccd:Value} {cl:List (Prod Str Addr)} {outer:List Env} {A₀:Around} {base h₀:Heap} {L:Addr} {m:Str→Option Value} {rest:Led} {s:Shared} {Q E:Value→Shared→Prop} (B:Below A₀ base outer h₀) (F:Fr h₀ L s.heap m) (X:(Mine.hd.heap_1 w.params).In h₀) (N:News h₀ L s.heap (([(bl,listOf #[.ref (A.b 0),.ref (A.b 1)] nb),(sp,listOf #[.int (σ.point 0) s0,.int (σ.point 1) s1] ns),(ow,listOf #[.ref (A.ma 0),.ref (A.ma 1),.ref (A.ma 2),.ref (A.ma 3)] no),(hl,listOf #[.ref (x 0),.ref (x 1),.ref (x 2),.ref (x 3)] nh),(x 0,tupO (σ.home 0) (σ.pos 0) (u 0) (u' 0)),(x 1,tupO (σ.home 1) (σ.pos 1) (u 1) (u' 1)),(x 2,tupO (σ.home 2) (σ.pos 2) (u 2) (u' 2)),(x 3,tupO (σ.home 3) (σ.pos 3) (u 3) (u' 3))]++(S++Tl))++rest)) (Tp:Top p loose mean mg mb h₀) (XB:(Mine.hd.heap_1 w.params).In base) (TB:Top p loose mean mg mb base) (D:KtsDicts (outer.filterMap (·.frame)) h₀) (hCd:CodeHd base 531 529) (hr:∀ q∈[(bl,listOf #[.ref (A.b 0),.ref (A.b 1)] nb),(sp,listOf #[.int (σ.point 0) s0,.int (σ.point 1) s1] ns),(ow,listOf #[.ref (A.ma 0),.ref (A.ma 1),.ref (A.ma 2),.ref (A.ma 3)] no),(hl,listOf #[.ref (x 0),.ref (x 1),.ref (x 2),.ref (x 3)] nh),(x 0,tupO (σ.home 0) (σ.pos 0) (u 0) (u' 0)),(x 1,tupO (σ.home 1) (σ.pos 1) (u 1) (u' 1)),(x 2,tupO (σ.home 2) (σ.pos 2) (u 2) (u' 2)),(x 3,tupO (σ.home 3) (σ.pos 3) (u 3) (u' 3))]++(S++rest),@Ne Nat q.1 529) (hk:cs.kind=.function) (hd:dp+12<recursionLimit) (hu:un+8 * 12<cLine) (ret:∀ Tl' h₀' h' tk',TabL 529 (ofString "_law_is_so.<locals>.<lambda>") Tl'→(∀ q∈Tl',q.1∈Tl.map (·.1)∨∀ p∈([(bl,listOf #[.ref (A.b 0),.ref (A.b 1)] nb),(sp,listOf #[.int (σ.point 0) s0,.int (σ.point 1) s1] ns),(ow,listOf #[.ref (A.ma 0),.ref (A.ma 1),.ref (A.ma 2),.ref (A.ma 3)] no),(hl,listOf #[.ref (x 0),.ref (x 1),.ref (x 2),.ref (x 3)] nh),(x 0,tupO (σ.home 0) (σ.pos 0) (u 0) (u' 0)),(x 1,tupO (σ.home 1) (σ.pos 1) (u 1) (u' 1)),(x 2,tupO (σ.home 2) (σ.pos 2) (u 2) (u' 2)),(x 3,tupO (σ.home 3) (σ.pos 3) (u 3) (u' 3))]++(S++Tl))++rest,@LT.lt Nat _ p.1 q.1)→KtsTurn (outer.filterMap (·.frame)) h₀ h₀'→Fr h₀' L h' m→News h₀' L h' (([(bl,listOf #[.ref (A.b 0),.ref (A.b 1)] nb),(sp,listOf #[.int (σ.point 0) s0,.int (σ.point 1) s1] ns),(ow,listOf #[.ref (A.ma 0),.ref (A.ma 1),.ref (A.ma 2),.ref (A.ma 3)] no),(hl,listOf #[.ref (x 0),.ref (x 1),.ref (x 2),.ref (x 3)] nh),(x 0,tupO (σ.home 0) (σ.pos 0) (u 0) (u' 0)),(x 1,tupO (σ.home 1) (σ.pos 1) (u 1) (u' 1)),(x 2,tupO (σ.home 2) (σ.pos 2) (u 2) (u' 2)),(x 3,tupO (σ.home 3) (σ.pos 3) (u 3) (u' 3))]++(S++Tl'))++rest)→Below A₀ base outer h₀'→(Mine.hd.heap_1 w.params).In h₀'→Top p loose mean mg mb h₀'→KtsDicts (outer.filterMap (·.frame)) h₀'→Q (.bool true) { s with heap:=h',toks:=tk' }) : wpAny (model PySem.Challenge.rw_ok0063_01.prog w) (ktrTop dp un gd cn cs L a ccd cl outer) (call (.ref 532) [.ref bl,.ref sp,.ref ow,.ref hl]) Q E s:=by with_unfolding_all exact h_56 55 (Nat.lt_succ_self 55) (sk0 |>.set 1 0 w |>.set 25 0 A |>.set 28 0 σ |>.set 6 18 bl |>.set 6 19 sp |>.set 6 20 ow |>.set 6 21 hl |>.set 60 0 x |>.set 61 0 u |>.set 61 1 u' |>.set 12 13 nb |>.set 12 14 ns |>.set 12 15 no |>.set 12 16 nh |>.set 14 26 s0 |>.set 14 27 s1 |>.set 22 4 S |>.set 22 5 Tl |>.set 0 1 p |>.set 35 1 loose |>.set 41 0 mean |>.set 7 4 mg |>.set 7 5 mb |>.set 12 7 dp |>.set 12 8 un |>.set 42 0 gd |>.set 19 5 cn |>.set 43 0 cs |>.set 6 14 a |>.set 10 22 ccd |>.set 44 0 cl |>.set 45 0 outer |>.set 2 2 A₀ |>.set 5 2 base |>.set 5 0 h₀ |>.set 6 0 L |>.set 7 0 m |>.set 4 0 s |>.set 3 1 Q |>.set 3 0 E) rest ok hgood hS hT B F X N Tp XB TB D hCd hr hk hd hu ret
theorem e71_1:True:=trivial
end
end Mine
namespace Mine
theorem int_eq {a b:Int} {t:Tok} (e:a=b) : Value.int a t=Value.int b t:=by rw [e]
section
variable {w:World} {p0 s0 e0 n0:Int} {t1 t2 t3 t4:Tok}
end
section
namespace Z0
theorem c_law_led:∀ s0 n0,P_law_led SpecC w (k15 8) (k15 20) (k14 2) (k14 3) (k14 4) (k14 5) s0 n0:=by
  intro s0 n0
  intro B F X N hr Tp hk hd hu ret
  simp only [List.nil_append] at N
  revert X;k_fill;intro X
  refine wpAny_call ?_
  k_dflt (refine' enterZ [ofString "place",ofString "start",ofString "end",ofString "many"] (l':=[(ofString "many",_),(ofString "end",_),(ofString "start",_),(ofString "place",_)]) ?k1 ?k2 ?k3 ?k4 ?k5 ?kA ?kF ?kK ?k6 ?k7 ?k8 ?k9 ?kB ?kL ?_ ?c2 ?c3 ?c4 ?c5;k_extra "ez")
  k_steps
  all_goals (
    rename News _ _ _ _=>N9
    refine' ret _ _ _ _ ⟨⟨_,?v⟩,rfl⟩ ?F N9
    (case F=>assumption)
    (case v=>(refine int_eq ?_;unfold led1;(repeat' split) <;> omega)))
end Z0
theorem h_57:∀ j,j<57→∀ u,Pf j u:=histS 56 h_56 (gen 56 h_56 (by with_unfolding_all exact Z0.c_law_led))
theorem law_led {w:World} {p0 s0 e0 n0:Int} {t1 t2 t3 t4:Tok} : P_law_led Spec w p0 e0 t1 t2 t3 t4 s0 n0:=fun p loose mean mg mb dp un gd cn cs a ccd cl outer A₀ base h₀ L m rest s Q E=>by with_unfolding_all exact h_57 56 (Nat.lt_succ_self 56) (sk0 |>.set 1 0 w |>.set 15 8 p0 |>.set 15 20 e0 |>.set 14 2 t1 |>.set 14 3 t2 |>.set 14 4 t3 |>.set 14 5 t4 |>.ctx p loose mean mg mb dp un gd cn cs a ccd cl outer A₀ base h₀ L m rest s Q E) s0 n0
end
end Mine
namespace Mine
theorem Halt.intro {P:Prop} (h:Halt P) : P:=h
section
variable {prog:Program} {w:World} {A:Around} {E:Value→Shared→Prop} {s:Shared} {h₀:Heap} {L D:Addr} {m:Str→Option Value} {news news':Led} {vs us:List Value} {ns:List Int} {n:Nat} {a b:Addr} {k x:Int} {t u:Tok}
theorem is_listN (N:News h₀ L s.heap news) (h1:(a,listOf vs.toArray n)∈news) : s.heap.IsList a vs.toArray:=⟨_,(N _ h1).1,rfl,n,rfl⟩
theorem ne_nil {Q:Value→Shared→Prop} (N:News h₀ L s.heap news) (h1:(a,listOf vs.toArray n)∈news) (hi:IntsAre vs ns) (h2:(b,listOf #[] 0)∈news) (hu:A.units+64<cLine) (h:Q (.bool (!decide (ns=[]))) s) : wpAny (model prog w) A (compareOp .NotEq (.ref a) (.ref b)) Q E s :=
  ne_intsK (is_listN N h1) hi (is_listN (vs:=[]) N h2) .nil hu h
theorem eq_nil {Q:Value→Shared→Prop} (N:News h₀ L s.heap news) (h1:(a,listOf vs.toArray n)∈news) (hi:IntsAre vs ns) (h2:(b,listOf #[] 0)∈news) (hu:A.units+64<cLine) (h:Q (.bool (decide (ns=[]))) s) : wpAny (model prog w) A (compareOp .Eq (.ref a) (.ref b)) Q E s :=
  eq_intsK (is_listN N h1) hi (is_listN (vs:=[]) N h2) .nil hu h
theorem deck0 {value slice:PySem.Expr} {v:Value} {Q:Value→Shared→Prop} (N:News h₀ L s.heap news) (h:(a,listOf (v::us).toArray n)∈news) (hq:Q v s)
    (hs:subscripted slice false (.ref a) (.int 0 t)=operate [.ref a,.int 0 t] (getItem (.ref a) (.int 0 t))) (hg:∀ z,letTemporaryGo value (.ref a) z=pure ()) : wpAny (model prog w) A (subscriptTail value slice (.ref a) (.int 0 t)) Q E s :=
  item_list (is_listN N h) (Int.le_refl 0) (by simp) (by simp) hq hs hg
theorem deck_pop {v:Value} {Q:Value→Shared→Prop} (F:Fr h₀ L s.heap m) (N:News h₀ L s.heap news) (U:Upd D (listOf (v::us).toArray n) (listOf us.toArray (n+1)) news news') (hz:us.length≤20)
    (h:∀ h',Fr h₀ L h' m→News h₀ L h' news'→Q v { s with heap:=h' }) : wpAny (model prog w) A (call (.builtin "list.pop") [.ref D,.int 0 u]) Q E s :=
  kl_popAt (k:=0) (p:=[]) (q:=us) (y:=v) F N (by decide) (by simp [seqIndex?]) rfl U (by have:=hz;rw [PySem.sizeLine_eq];simp;omega) h
theorem deck_set {v:Value} {Q:Unit→Shared→Prop} (F:Fr h₀ L s.heap m) (N:News h₀ L s.heap news) (U:Upd D (listOf (v::us).toArray n) (listOf (.int x u::us).toArray n) news news')
    (h:∀ h',Fr h₀ L h' m→News h₀ L h' news'→Q () { s with heap:=h' }) : wpAny (model prog w) A (setItem (.ref D) (.int 0 t) (.int x u)) Q E s :=
  ki_set F N (Int.le_refl 0) (by decide) rfl U h
end
section
variable {w:World} {dl:Addr} {vs:List Value} {ns:List Int} {c:Nat} {many:Int} {t1:Tok}
theorem kw77_1:True:=by
  k_with "binaryOp FloorDiv int int" => ((fail_if_success have:=@e77_1);k_here;(with_reducible refine floordiv_int ?kbe ?_ (Or.inl (PyProof.noPylong_small ?kbp)));(case kbe=>omega);(case kbp=>omega))
  k_with "last exec While" => ((fail_if_success have:=@e77_1);k_here;refine Halt.intro ?_)
  k_with "compareOp NotEq ref ref" => ((fail_if_success have:=@e77_1);k_here;(with_reducible show wpAny _ _ (compareOp CmpOp.NotEq (Value.ref _) (Value.ref _)) _ _ _);k_dflt (refine' ne_nil ?N ?h1 ?hi ?h2 ?hu ?_;(case N=>k_asm);(case h1=>k_mem);(case hi=>assumption);(case h2=>k_mem);(case hu=>units_room);k_whole))
  k_with "compareOp Eq ref ref" => ((fail_if_success have:=@e77_1);k_here;(with_reducible show wpAny _ _ (compareOp CmpOp.Eq (Value.ref _) (Value.ref _)) _ _ _);k_dflt (refine' eq_nil ?N ?h1 ?hi ?h2 ?hu ?_;(case N=>k_asm);(case h1=>k_mem);(case hi=>assumption);(case h2=>k_mem);(case hu=>units_room);k_whole))
  k_with "subscriptTail Name Constant ref int" => ((fail_if_success have:=@e77_1);k_here;k_dflt (refine' deck0 ?N ?l ?_ ?s ?t;(case N=>k_asm);(case l=>k_mem);k_extra "tl"))
  k_with "call builtin:list.pop" => ((fail_if_success have:=@e77_1);k_here;(with_reducible show wpAny _ _ (call (Value.builtin _) [Value.ref _,Value.int _ _]) _ _ _);k_dflt (refine' deck_pop ?F ?N ?U ?z ?_;(case F=>k_asm);(case N=>k_asm);(case U=>k_upd);(case z=>assumption));intro h' F' N';(try dsimp only [List.nil_append,List.cons_append] at N'))
  k_with "setItem ref int" => ((fail_if_success have:=@e77_1);k_here;(with_reducible show wpAny _ _ (setItem (Value.ref _) (Value.int _ _) (Value.int _ _)) _ _ _);k_dflt (refine' deck_set ?F ?N ?U ?_;(case F=>k_asm);(case N=>k_asm);(case U=>k_upd));intro h' F' N';(try dsimp only [List.nil_append,List.cons_append] at N'))
  trivial
end
section
namespace Z0
theorem c_law_draw:∀ ns,P_law_draw SpecC w dl (k23 0) (k12 17) (k15 21) (k14 2) ns:=by
  intro ns hi hz hm hm2
  intro B F X N hr Tp hk hd hu ret
  simp only [List.cons_append,List.nil_append] at N
  have r0:=hr.ne (d:=dl) (by k_extra "mem")
  revert X;k_fill;intro X
  refine wpAny_call ?_
  k_dflt (refine' enterZ [ofString "deck",ofString "many"] (l':=[(ofString "many",_),(ofString "deck",_)]) ?k1 ?k2 ?k3 ?k4 ?k5 ?kA ?kF ?kK ?k6 ?k7 ?k8 ?k9 ?kB ?kL ?_ ?c2 ?c3 ?c4 ?c5;k_extra "ez")
  k_steps
  rename Fr _ _ _ _=>F8
  rename News _ _ _ _=>N8
  unfold Halt
  refine While_inv (fun n m' n'=>m'=(fun y=>List.lookup y [(ofString "many",Value.int (k15 21) (k14 2)),(ofString "deck",Value.ref dl)])∧∃ vs2 ns2 c2,n=ns2.length∧IntsAre vs2 ns2∧ns2.length≤ns.length∧n'=(dl,listOf (List.toArray vs2) c2)::rest) F8 N8 ⟨rfl,(k23 0),ns,(k12 17),rfl,hi,Nat.le_refl _,rfl⟩ ?_
  rintro n m₁ news₁ h₁ tk₁ F1 N1 ⟨rfl,vs1,ns1,c1,rfl,hi1,hl1,rfl⟩
  clear F8 N8
  cases hi1 with
  | nil =>
    have hn:IntsAre [] []:=.nil
    k_steps
    rename News h₀ L _ _=>N9
    refine ret _ _ _ _ ⟨⟨0,_,rfl,Int.le_refl 0,by omega⟩,[],[],c1,rfl,.nil,Nat.zero_le _⟩ ‹_› (News.sub N9 fun q hq=>?_)
    revert q;k_extra "sb"
  | cons k t hr1 =>
    rename_i us1 nr1
    have hc:IntsAre (.int k t::us1) (k::nr1):=.cons k t hr1
    have hz1:us1.length≤20:=by have:=hr1.length;simp only [List.length_cons] at hl1;omega
    by_cases hk0:k=0
    · subst hk0
      k_steps
      · rename Fr g' L' _ _=>F9
        rename News g' L' _ _=>N9
        refine WhileStep.intro (news₂:=(dl,listOf (List.toArray us1) (c1+1))::rest) F9 (News.sub N9 fun q hq=>?_) (n':=nr1.length) (Nat.lt_succ_self _) ?h
        · exact .tail _ hq
        exact ⟨rfl,us1,nr1,c1+1,rfl,hr1,by simp only [List.length_cons] at hl1;omega,rfl⟩
    · k_steps
      · rename News h₀ L _ _=>N9
        exact ret _ _ _ _ ⟨⟨_,_,rfl,Int.fmod_nonneg_of_pos k (by omega),Int.fmod_lt_of_pos k (by omega)⟩,_,_,_,rfl,.cons (k.fdiv (k15 21)) _ hr1,(show (k.fdiv (k15 21)::nr1).length≤ns.length from hl1)⟩ ‹_› (led_end (.cons (.tail (.tail .head)) .nil) (fun q h=>.tail _ (.tail _ h)) N9)
end Z0
theorem h_58:∀ j,j<58→∀ u,Pf j u:=histS 57 h_57 (gen 57 h_57 (by with_unfolding_all exact Z0.c_law_draw))
theorem law_draw {w:World} {dl:Addr} {vs:List Value} {ns:List Int} {c:Nat} {many:Int} {t1:Tok} : P_law_draw Spec w dl vs c many t1 ns:=fun hi hz hm hm2 p loose mean mg mb dp un gd cn cs a ccd cl outer A₀ base h₀ L m rest s Q E=>by with_unfolding_all exact h_58 57 (Nat.lt_succ_self 57) (sk0 |>.set 1 0 w |>.set 6 22 dl |>.set 23 0 vs |>.set 12 17 c |>.set 15 21 many |>.set 14 2 t1 |>.ctx p loose mean mg mb dp un gd cn cs a ccd cl outer A₀ base h₀ L m rest s Q E) ns hi hz hm hm2
theorem e77_1:True:=trivial
end
end Mine
namespace Mine
section
variable {prog:Program} {w:World} {A:Around} {s:Shared} {h₀:Heap} {L:Addr} {m:Str→Option Value} {env:Env} {elt:Expr} {x:Str} {scope:Scope} {cl:List (Str × Addr)} {S:Led→Prop} {P:Nat→Value→Prop} {Fin:List Value→Led→Prop} {news:Led} {n:Nat}
theorem off1_ne {D:Addr} : ∀ {l:Led},LCg.Off1 D l→∀ p∈l,@Ne Nat p.1 D
  | [],_,_,h=>nomatch h
  | _::_,x,p,h=>by
    rcases List.mem_cons.mp h with rfl | h
    · exact x.1
    · exact off1_ne x.2 p h
end
theorem ints_at {vs:List Value} {ns:List Int} (h:IntsAre vs ns) : ∀ {i:Nat} {v:Value},vs.toArray[i]?=some v→∃ k t,v=.int k t:=by
  induction h with
  | nil=>intro i v e;simp at e
  | cons n t r ih =>
    intro i v e
    cases i with
    | zero=>simp at e;exact ⟨n,t,e.symm⟩
    | succ i=>exact ih (by simpa using e)
section
variable {w:World} {sc:Addr} {vs:List Value} {ns:List Int}
theorem kw91_1:True:=by
  k_with "eval ListComp" => ((fail_if_success have:=@e91_1);k_here;k_dflt (refine LCg.ListComp_U (F₀:=by k_asm) (by rfl) (by decide) (by rfl) (by decide) (by rfl) ?_);k_dflt lcg_toSrc)
  k_with "CompSrc" => ((fail_if_success have:=@e91_1);k_here;refine Halt.intro ?_)
  trivial
theorem e91_1:True:=trivial
end
end Mine
namespace Mine
section
open PySem.W PySem PySem.Calls PyProof.Rows PyProof.V PySem.Spec
theorem fresh_find {nm:Str} : ∀ {es:List DictEntry},(∀ e∈es,e.key.isStr nm=false)→es.find? (·.key.isStr nm)=none∧es.any (·.key.isStr nm)=false:=fun h =>
  ⟨List.find?_eq_none.mpr fun e he=>by rw [h e he];exact Bool.false_ne_true,List.any_eq_false.mpr fun e he=>by rw [h e he];exact Bool.false_ne_true⟩
theorem fresh_put {nm:Str} {hsh:Int} {key v:Value} : ∀ {es:List DictEntry},(∀ e∈es,e.key.isStr nm=false)→putL nm hsh key v es=es++[⟨hsh,key,v⟩]
  | [],_=>rfl
  | e::r,h=>by
    rw [putL,if_neg (by rw [h e (.head _)];exact Bool.false_ne_true),fresh_put fun x hx=>h x (.tail _ hx)];rfl
theorem Fresh.snoc {es:List DictEntry} {nm:Str} {l:List Str} {hsh:Int} {t:Tok} {v:Value} (f:Fresh es (nm::l)) : Fresh (es++[⟨hsh,.str nm t,v⟩]) l:=by
  refine oa3 f ?_;(try clear f);intro f1 f2 f3
  refine ⟨fun e he=>?_,?_,(List.nodup_cons.mp f3).2⟩
  · rcases List.mem_append.mp he with h | h
    · exact ⟨(f1 e h).1,fun x hx=>(f1 e h).2 x (.tail _ hx)⟩
    · rcases List.mem_cons.mp h with rfl | h
      · refine ⟨rfl,fun x hx=>?_⟩
        show (nm == x)=false
        exact beq_eq_false_iff_ne.mpr fun q=>(List.nodup_cons.mp f3).1 (q ▸ hx)
      · cases h
  · rw [List.length_append];simp only [List.length_cons,List.length_nil] at f2 ⊢;omega
theorem UpdF.upd {d:Addr} {o:Obj} {l:Led} {g:Obj→Led} (U:UpdF d o l g) (o':Obj) : Upd d o o' l (g o'):=by
  induction U with
  | head h=>exact .head h
  | tail h _ ih=>exact .tail h ih
variable {prog:Program} {w:World} {A:Around} {E:Value→Shared→Prop} {s:Shared} {K:Frag} {x C dx L:Addr} {h₀:Heap} {m:Str→Option Value} {news:Led} {ox:Obj} {es:List DictEntry} {n:Nat} {name:Str} {v:Value}
theorem set_fresh {l:List Str} {g:Obj→Led} {Q:Unit→Shared→Prop} (F:Fr h₀ L s.heap m) (X₀:K.In h₀) (N:News h₀ L s.heap news) (I:InstAt s.heap x ox C (some (dictOf es n))) (hd:ox.dict=some dx)
    (hs:findIn K (.ref C) "__setattr__" = some (some (.builtin "object.__setattr__"))) (hp:plainOver K C=true) (ht:takerIn K C name=some none) (hh:hasDictIn K C=true) (f:Fresh es (name::l)) (U:UpdF dx (dictOf es n) news g)
    (h:∀ h' es',es'=es++[⟨PyData.keyHash w.params name,.str name (s.toks+1),v⟩]→Fresh es' l→Fr h₀ L h' m→News h₀ L h' (g (dictOf es' (n+1)))→Q () { s with heap:=h',toks:=s.toks+2 }) :
    wpAny (model prog w) A (setAttr (.ref x) name v) Q E s:=by
  have k:∀ e∈es,e.key.isStr name=false:=fun e he=>(f.1 e he).2 name (.head _)
  have hl:(getL name es).isSome=true:=by
    rw [getL,(fresh_find k).1]
    show (if es.any (·.refKey)=true then none else some none:Option (Option Value)).isSome=true
    rw [if_neg]
    · rfl
    · intro q
      refine oe1 (List.any_eq_true.mp q) ?_;intro e z0;refine oa2 z0 ?_;(try clear z0);intro he hr
      rw [(f.1 e he).1] at hr
      cases hr
  refine set_dict F X₀ N I hd hs hp ht hh hl ?_ (UpdF.upd U _) ?_ fun h' F' N'=>h h' _ rfl f.snoc F' N'
  · rw [fresh_put k,putN,(fresh_find k).2];rfl
  · have:=f.2.1
    rw [List.length_append];simp only [List.length_cons,List.length_nil] at this ⊢;omega
theorem hideR {h₀ h:Heap} {L:Addr} {a b:Addr × Obj} {R:Led} {G:Prop} (N:News h₀ L h ([a,b]++R)) (hne:∀ p∈R,p.1≠a.1) (k:∀ R':Led,R'=R→News h₀ L h (a::b::R')→(∀ p∈R',p.1≠a.1)→G) : G:=k R rfl N hne
theorem fresh0:Fresh [] [ofString "number",ofString "name",ofString "text",ofString "markers",ofString "point",ofString "begv",ofString "zv",ofString "mark",ofString "is_live",ofString "is_read_only",ofString "ticks",ofString "codes_ticks",ofString "saved_ticks",ofString "listeners",ofString "undo",ofString "props",ofString "overlays",ofString "locals",ofString "syntax",ofString "file"] :=
  ⟨fun _ h=>(nomatch h),by decide,by decide +kernel⟩
end
section
variable {w:World}
theorem kw93_1:True:=by
  k_with "arith" => ((fail_if_success have:=@e93_9);k_whole;k_extra "ar2")
  k_with "setAttr ref" => ((fail_if_success have:=@e93_9);k_here;k_dflt (refine' set_fresh ?k1 ?k2 ?k3 ?k4 ?k5 ?k6 ?k7 ?k8 ?k9 ?fr ?U ?_;(case k4=>k_inst);(case fr=>first | assumption | exact fresh0);(case k1=>k_asm);(case k2=>k_asm);(case k3=>k_asm);(case k5=>exact rfl);(case k6=>k_is);(case k7=>k_is);(case k8=>k_is);(case k9=>k_is);(case U=>k_updF);k_whole);intro h' es' e' fr' F' N';(try dsimp only at N');(try k_sweep))
  k_with "setAttr ref" => ((fail_if_success have:=@e93_9);(fail_if_success (rename HidR _=>hz9));k_here;(with_reducible show wpAny _ _ (setAttr _ (ofString "point") _) _ _ _);refine Halt.intro ?_)
  k_with "call ref" => ((fail_if_success have:=@e93_1);k_here;(with_reducible show wpAny _ _ (call (Value.ref 177) _) _ _ _);k_dflt (refine' call_cls ?k1 ?k2 ?k3 ?k4 ?k5 ?k6 ?_;(case k1=>k_asm);(case k2=>k_asm);(case k3=>k_asm);(case k4=>k_is);(case k5=>k_is);(case k6=>k_is);k_whole;intro x' d' h' F' N' l1 l2;(try k_lt l1);(try k_lt2 l2);(try k_sweep));k_dflt (refine' enterZ [ofString "self",ofString "codes",ofString "room"] (l':=[(ofString "room",_),(ofString "codes",_),(ofString "self",_)]) ?k1 ?k2 ?k3 ?k4 ?k5 ?kA ?kF ?kK ?k6 ?k7 ?k8 ?k9 ?kB ?kL ?_ ?c2 ?c3 ?c4 ?c5;k_extra "ez"))
  k_with "call ref" => ((fail_if_success have:=@e93_1);k_here;(with_reducible show wpAny _ _ (call (Value.ref 322) _) _ _ _);k_dflt (refine' call_cls ?k1 ?k2 ?k3 ?k4 ?k5 ?k6 ?_;(case k1=>k_asm);(case k2=>k_asm);(case k3=>k_asm);(case k4=>k_is);(case k5=>k_is);(case k6=>k_is);k_whole;intro x' d' h' F' N' l1 l2;(try k_lt l1);(try k_lt2 l2);(try k_sweep));k_dflt (refine' enterZ [ofString "self"] (l':=[(ofString "self",_)]) ?k1 ?k2 ?k3 ?k4 ?k5 ?kA ?kF ?kK ?k6 ?k7 ?k8 ?k9 ?kB ?kL ?_ ?c2 ?c3 ?c4 ?c5;k_extra "ez"))
  k_with "call ref" => ((fail_if_success have:=@e93_1);k_here;(with_reducible show wpAny _ _ (call (Value.ref 428) _) _ _ _);k_dflt (refine' call_cls ?k1 ?k2 ?k3 ?k4 ?k5 ?k6 ?_;(case k1=>k_asm);(case k2=>k_asm);(case k3=>k_asm);(case k4=>k_is);(case k5=>k_is);(case k6=>k_is);k_whole;intro x' d' h' F' N' l1 l2;(try k_lt l1);(try k_lt2 l2);(try k_sweep));k_dflt (refine' code_def ?k1 ?k2 ?k3 ?k4 ?k5 ?kA ?kF ?kK ?k6 ?k7 ?k8 ?k9 ?kB ?_ ?c2 ?c3 ?c4 ?c5;(case kA=>exact rfl);(case kF=>exact rfl);(case kK=>first | exact rfl | assumption);(case k1=>k_asm);(case k2=>k_asm);(case k3=>k_asm);(case k4=>k_asm);(case k5=>k_asm);(case k6=>k_is);(case k7=>k_is);(case k8=>ktr_room);(case k9=>exact binds_K (by k_in) rfl (by k_is) rfl rfl rfl);(case c5=>decide);(case kB=>exact locs rfl);(case c2=>exact rfl);(case c3=>exact rfl);(case c4=>exact rfl);k_whole;intro g' L' h' FG' F' N' B' X' T';(try dsimp only);(try k_fold)))
  k_with "call ref" => ((fail_if_success have:=@e93_1);k_here;(with_reducible show wpAny _ _ (call (Value.ref 254) _) _ _ _);k_dflt (refine' call_cls ?k1 ?k2 ?k3 ?k4 ?k5 ?k6 ?_;(case k1=>k_asm);(case k2=>k_asm);(case k3=>k_asm);(case k4=>k_is);(case k5=>k_is);(case k6=>k_is);k_whole;intro x' d' h' F' N' l1 l2;(try k_lt l1);(try k_lt2 l2);(try k_sweep));k_dflt (refine' enterZ [ofString "self",ofString "number",ofString "advances"] (l':=[(ofString "advances",_),(ofString "number",_),(ofString "self",_)]) ?k1 ?k2 ?k3 ?k4 ?k5 ?kA ?kF ?kK ?k6 ?k7 ?k8 ?k9 ?kB ?kL ?_ ?c2 ?c3 ?c4 ?c5;k_extra "ez"))
  trivial
end
section
namespace Z0
theorem c_make_buffer:P_make_buffer w (k15 7) (k14 28) (k19 2) (k14 2) p loose mean mg mb dp un gd cn cs a ccd cl outer A₀ base h₀ L m rest s Q E:=by
  intro B F X N Tp hk hd hu ret
  revert X;k_fill;intro X
  k_steps
  unfold Halt
  rename News _ _ _ _=>N8
  refine hideR (led_end (led:=[(_,dictOf es' _),(_,instObj 428 _)]) (by (repeat' first | exact Pick.nil | refine' Pick.cons ?_ ?_ | exact Take.head | refine' Take.tail ?_)) sbr N8) (by k_all) ?_
  intro R hR N7 hne
  have hid:HidR R:=rfl
  clear N8
  k_steps
  rename News h₀ L _ _=>N9
  subst hR
  rename _∧_∧AllLt _ (_::_)=>l9
  simp only [AllLt,and_true] at l9
  repeat (rename _=_++[_]=>ee;rw [ee] at N9;clear ee)
  dsimp only [List.nil_append,List.cons_append] at N9
  exact ret _ _ _ _ _ _ _ _ _ _ _ _ _ _ _ _ _ _ _ _ _ _ _ _ _ _ _ _ _ _ _ _ _ _ _ _ _ _ _ _ _ _ _ _ _ _ _ _ _ _ (led_end (by (repeat' first | exact Pick.nil | refine' Pick.cons ?_ ?_ | exact Take.head | refine' Take.tail ?_)) (by k_extra "opq") N9) ‹_› ‹_› ⟨by omega,by omega,by omega,by omega,by omega,by omega,by omega,by omega⟩ rfl ‹_› ‹_›
end Z0
theorem h_59:∀ j,j<59→∀ u,Pf j u:=histS 58 h_58 (gen 58 h_58 (by with_unfolding_all exact Z0.c_make_buffer))
theorem make_buffer {w:World} (i:Int) (t0:Tok) (nm:Str) (t1:Tok) : ∀ (p:Program) (loose:List Str) (mean:ExcName→Option Value) (mg mb:Str→Option Value) (dp un:Nat) (gd:Option (List Code)) (cn:Str) (cs:Scope) (a:Addr) (ccd:Value) (cl:List (Str × Addr)) (outer:List Env) (A₀:Around) (base h₀:Heap) (L:Addr) (m:Str→Option Value) (rest:List (Addr × Obj)) (s:Shared) (Q E:Value→Shared→Prop),
    Below A₀ base outer h₀→Fr h₀ L s.heap m→(Mine.hd.heap_1 w.params).In h₀→News h₀ L s.heap rest→Top p loose mean mg mb h₀→cs.kind=.function→dp+12<recursionLimit→un+8 * 12<cLine →
    (∀ (b bd t td c k kd r ls:Addr) (T0 T1 T2 T3 T4 T5 T6 T7 T8 T9 T10 T11 T12 T13 T14 T15 T16 T17 T18 T19:Tok) (vn vm ct st:Value) (tp tb tz u1 g1 g2 g3 g4 g5 g6 g7 tr:Tok) (n:Nat) (its:Array Value) (o:Obj) (h':Heap) (tk':Nat),News h₀ L h' ([(ls,listOf #[] 0),(k,instObj 322 kd),(kd,rowsD w tr r),(r,o),(t,instObj 177 td),(td,gapD w g1 g2 g3 g4 (.int 8 g5) c (.int 0 g6) (.int 8 g7)),(c,listOf its n),(b,instObj 428 bd),(bd,bufD w (tok20 [T0,T1,T2,T3,T4,T5,T6,T7,T8,T9,T10,T11,T12,T13,T14,T15,T16,T17,T18,T19]) vn vm t k (.int 1 tp) (.int 1 tb) (.int 1 tz) .none (.int 1 u1) ct st ls)]++rest)→Fr h₀ L h' m→(∀ p∈rest,p.1<bd) →
      ((@LT.lt Nat _ bd b)∧(@LT.lt Nat _ b td)∧(@LT.lt Nat _ td t)∧(@LT.lt Nat _ t c)∧(@LT.lt Nat _ c kd)∧(@LT.lt Nat _ kd k)∧(@LT.lt Nat _ k r)∧(@LT.lt Nat _ r ls))→its.size=8→IsRows w o []→(r == sysModules)=false→Q (.ref b) { s with heap:=h',toks:=tk' }) →
    wpAny (model PySem.Challenge.rw_ok0063_01.prog w) (ktrTop dp un gd cn cs L a ccd cl outer) (call (.ref 428) [.int i t0,.str nm t1]) Q E s:=fun p loose mean mg mb dp un gd cn cs a ccd cl outer A₀ base h₀ L m rest s Q E=>by with_unfolding_all exact h_59 58 (Nat.lt_succ_self 58) (sk0 |>.set 1 0 w |>.set 15 7 i |>.set 14 28 t0 |>.set 19 2 nm |>.set 14 2 t1 |>.set 0 1 p |>.set 35 1 loose |>.set 41 0 mean |>.set 7 4 mg |>.set 7 5 mb |>.set 12 7 dp |>.set 12 8 un |>.set 42 0 gd |>.set 19 5 cn |>.set 43 0 cs |>.set 6 14 a |>.set 10 22 ccd |>.set 44 0 cl |>.set 45 0 outer |>.set 2 2 A₀ |>.set 5 2 base |>.set 5 0 h₀ |>.set 6 0 L |>.set 7 0 m |>.set 62 0 rest |>.set 4 0 s |>.set 3 1 Q |>.set 3 0 E)
end
section
variable {w:World}
theorem e93_9:True:=trivial
theorem make_marker (i:Int) (t0:Tok) : ∀ (p:Program) (loose:List Str) (mean:ExcName→Option Value) (mg mb:Str→Option Value) (dp un:Nat) (gd:Option (List Code)) (cn:Str) (cs:Scope) (a:Addr) (ccd:Value) (cl:List (Str × Addr)) (outer:List Env) (A₀:Around) (base h₀:Heap) (L:Addr) (m:Str→Option Value) (rest:List (Addr × Obj)) (s:Shared) (Q E:Value→Shared→Prop),
    Below A₀ base outer h₀→Fr h₀ L s.heap m→(Mine.hd.heap_1 w.params).In h₀→News h₀ L s.heap rest→Top p loose mean mg mb h₀→cs.kind=.function→dp+12<recursionLimit→un+8 * 12<cLine →
    (∀ (x d:Addr) (t1 t2 t3 t4 t5 t6:Tok) (h':Heap) (tk':Nat),News h₀ L h' ([(x,instObj 254 d),(d,mkD w t1 t2 t3 t4 (.int i t5) .none (.int 0 t6))]++rest)→Fr h₀ L h' m→(∀ p∈rest,p.1<d)→@LT.lt Nat _ d x→Q (.ref x) { s with heap:=h',toks:=tk' }) →
    wpAny (model PySem.Challenge.rw_ok0063_01.prog w) (ktrTop dp un gd cn cs L a ccd cl outer) (call (.ref 254) [.int i t0,.bool false]) Q E s:=by
  intro p loose mean mg mb dp un gd cn cs a ccd cl outer A₀ base h₀ L m rest s Q E B F X N Tp hk hd hu ret
  revert X;k_fill;intro X
  k_steps
  rename News h₀ L _ _=>N9
  exact ret _ _ _ _ _ _ _ _ _ _ (led_end (by (repeat' first | exact Pick.nil | refine' Pick.cons ?_ ?_ | exact Take.head | refine' Take.tail ?_)) (fun q hq=>hq) N9) ‹_› ‹_› (by omega)
theorem e93_1:True:=trivial
end
end Mine
namespace Mine
open PyProof.V PyProof.Rows.LCg
section
variable {prog:Program} {w:World} {A:Around} {E:Value→Shared→Prop} {s:Shared} {env:Env} {h₀:Heap} {body:List Stmt} {Q:Flow→Shared→Prop}
end
section
namespace Z0
theorem c_rangeX:∀ A Q x,P_rangeX (k0 0) w E s env h₀ (k20 0) (k56 0) n (k14 29) m news (k52 0) A Q x:=by
  intro A Q x hh hC hCn F N hn rest
  refine call_range_1 ?_
  have hr:=IsRange.new s.heap 0 (n:Int) 1 s.toks (k14 29) (s.toks+1)
  refine wpAny_pyIter_range hr (small_one (by omega) (by omega) (by omega) (by omega)) ?_
  have hsz:Builtin.Range.rangeSize 0 (n:Int) 1=(n:Int):=by rw [rangeSize_one];split <;> omega
  rw [hsz]
  dsimp only
  obtain ⟨J,J0,step,done⟩:=rest (s.heap.push { cls:=.type "range",data:=.fields #[.int 0 s.toks,.int n (k14 29),.int 1 (s.toks+1)] }).objs.size fun p hp=>by
    have:=Heap.lt_size (N p hp).1
    rw [Heap.size_push]
    exact Nat.lt_succ_of_lt this
  generalize hH:s.heap.push { cls:=.type "range",data:=.fields #[.int 0 s.toks,.int n (k14 29),.int 1 (s.toks+1)] }=H at *
  have upH:∀ b o,s.heap.get? b=some o→H.get? b=some o:=fun b o e=>hH ▸ Heap.get?_push_of_some _ e
  have up:∀ b o,s.heap.get? b=some o→(H.push { cls:=.type "range_iterator",data:=.fields #[rawInt 0,rawInt n,rawInt 1] }).get? b=some o:=fun b o e=>Heap.get?_push_of_some _ (upH b o e)
  have hsz':s.heap.objs.size<H.objs.size:=by rw [← hH,Heap.size_push];exact Nat.lt_succ_self _
  have ltN:∀ p∈news,@LT.lt Nat _ p.1 H.objs.size:=fun p hp=>Nat.lt_trans (Heap.lt_size (N p hp).1) hsz'
  have hfresh:h₀.get? H.objs.size=none:=kts_none F.keep (Heap.get?_none_of_le (Nat.le_of_lt hsz'))
  have hLs : @LT.lt Nat _ env.locals H.objs.size:=Nat.lt_trans F.ns.lt hsz'
  refine ⟨(k52 0),h₀,_,_,_,_,_,_,_,m,news,fun i m n=>J i m n∧∀ p∈n,@LT.lt Nat _ p.1 H.objs.size∨@LT.lt Nat _ H.objs.size p.1,rfl,KTurns.ofWalks (Walks.range hh H.objs.size 0 1 n) (fun i v s Q E st q=>wpAny_pure q),?_,hC,?_,?_,?_,F.keeps up,N.grown up,⟨J0,fun p hp=>.inl (ltN p hp)⟩,?_,?_⟩
  · intro hm
    have:=List.mem_singleton.mp hm
    exact absurd (show @LT.lt Nat _ env.locals H.objs.size from hLs) (by rw [← this];exact Nat.lt_irrefl _)
  · intro h hCh b hb
    rw [List.mem_singleton.mp hb]
    exact hCn h hCh _ hfresh
  · intro p hp hm
    have a:=ltN p hp
    have:p.1=H.objs.size:=List.mem_singleton.mp hm
    rw [this] at a
    exact Nat.lt_irrefl _ a
  · show IsRangeIter _ _ _ _ _
    have:=Heap.get?_push_size H (o:={ cls:=.type "range_iterator",data:=.fields #[rawInt 0,rawInt n,rawInt 1] }) rfl
    simpa using this
  · rintro i v h₀' m₁ news₁ h₁ tk₁ own hCh hi ⟨tv,rfl⟩ ⟨hJ,hlt⟩ hnw hof hfo hst F₁ N₁
    obtain ⟨oI,heI⟩ : ∃ oI,h₁.get? H.objs.size=some oI:=⟨_,hst⟩
    have ev:(0:Int)+(i:Int) * 1=(i:Int):=by omega
    rw [ev]
    refine step i tv hi h₀' m₁ news₁ h₁ tk₁ oI hCh hJ hlt F₁ (fun q hq=>?_) _ fun h₀'' h'' tk m' news' hC' F' N' hlt' hJ'=>?_
    · rcases List.mem_cons.mp hq with rfl | hq
      · exact N₁ _ (List.mem_append.mpr (.inl (hfo _ (.head _) _ heI)))
      · exact N₁ _ (List.mem_append.mpr (.inr hq))
    · refine ⟨rfl,h₀'',h'',tk,m',news',hC',rfl,F',fun q hq=>?_,fun p hp hm=>?_,hJ',hlt'⟩
      · rcases List.mem_append.mp hq with hq | hq
        · have e1:q.1=H.objs.size:=List.mem_singleton.mp (hof q hq)
          have e2:=(N₁ q (List.mem_append.mpr (.inl hq))).1
          rw [e1,heI] at e2
          have e3:q=(H.objs.size,oI):=by
            obtain ⟨a,b⟩:=q
            dsimp only at e1 e2
            rw [e1,Option.some.inj e2]
          rw [e3]
          exact N' _ (.head _)
        · exact N' q (.tail _ hq)
      · have a:=hlt' p hp
        have:p.1=H.objs.size:=List.mem_singleton.mp hm
        rw [this] at a
        exact a.elim (Nat.lt_irrefl _) (Nat.lt_irrefl _)
  · intro h₀' h'' tk m' news' hCh F' N' hJ
    exact done h₀' h'' tk m' news' hCh F' N' hJ.1
end Z0
theorem h_60:∀ j,j<60→∀ u,Pf j u:=histS 59 h_59 (gen 59 h_59 (by with_unfolding_all exact Z0.c_rangeX))
theorem rangeX {prog:Program} {w:World} {A:Around} {E:Value→Shared→Prop} {s:Shared} {env:Env} {h₀:Heap} {body:List PySem.Stmt} {Q:Flow→Shared→Prop} {x:Str} {pos:Pos} {n:Nat} {t:Tok} {m:Str→Option Value} {news:Led} (C:Heap→Prop) : P_rangeX prog w E s env h₀ body pos n t m news C A Q x:=by with_unfolding_all exact h_60 59 (Nat.lt_succ_self 59) (sk0 |>.set 0 0 prog |>.set 1 0 w |>.set 3 0 E |>.set 4 0 s |>.set 18 0 env |>.set 5 0 h₀ |>.set 20 0 body |>.set 56 0 pos |>.set 12 0 n |>.set 14 29 t |>.set 7 0 m |>.set 22 2 news |>.set 52 0 C) A Q x
end
section
namespace Z0
theorem c_listX:∀ A Q x,P_listX (k0 0) w E s env h₀ (k20 0) (k56 0) (k6 1) (k12 18) (k23 4) m news (k52 0) A Q x:=by
  intro A Q x hh hC hCn F N hl rest
  have hax1:=N _ hl
  have hl1:s.heap.IsList (k6 1) (k23 4).toArray:=⟨_,hax1.1,rfl,(k12 18),rfl⟩
  have hlt1 : @LT.lt Nat _ (k6 1) s.heap.objs.size:=Heap.lt_size hax1.1
  have hne:(k6 1)≠s.heap.objs.size:=Nat.ne_of_lt hlt1
  refine wpAny_pyIter_list hl1 ?_
  refine oe1 (rest s.heap.objs.size fun p hp=>Heap.lt_size (N p hp).1) ?_;intro J z0;refine oa3 z0 ?_;(try clear z0);intro J0 step done
  have up:∀ b o,s.heap.get? b=some o→(s.heap.push { cls:=.type "list_iterator",data:=.fields #[.ref (k6 1),.int 0 0] }).get? b=some o:=fun b o e=>Heap.get?_push_of_some _ e
  have ltN:∀ p∈news,@LT.lt Nat _ p.1 s.heap.objs.size:=fun p hp=>Heap.lt_size (N p hp).1
  have hfresh:h₀.get? s.heap.objs.size=none:=kts_none F.keep (Heap.get?_none_of_le (Nat.le_refl _))
  have hLs : @LT.lt Nat _ env.locals s.heap.objs.size:=F.ns.lt
  have hn:(k23 4).toArray.size=(k23 4).length:=by simp
  refine ⟨(k52 0),h₀,_,_,_,_,_,_,_,m,news,fun i m n=>(J i m n∧((k6 1),listOf (k23 4).toArray (k12 18))∈n)∧∀ p∈n,@LT.lt Nat _ p.1 s.heap.objs.size∨@LT.lt Nat _ s.heap.objs.size p.1,rfl,KTurns.ofWalks (Walks.list hh s.heap.objs.size (k6 1) hne (k23 4).toArray) (fun i v s Q E st q=>wpAny_pure q),?_,hC,?_,?_,?_,F.keeps up,N.grown up,⟨⟨J0,hl⟩,fun p hp=>.inl (ltN p hp)⟩,?_,?_⟩
  · intro hm
    have z1 : @Ne Nat (k6 1) env.locals:=hax1.2.1
    rcases List.mem_cons.mp hm with h | h
    · exact absurd (show @LT.lt Nat _ env.locals s.heap.objs.size from hLs) (by rw [← h];exact Nat.lt_irrefl _)
    · exact z1 (List.mem_singleton.mp h).symm
  · intro h hCh b hb
    refine hCn h hCh b ?_
    rcases List.mem_cons.mp hb with h | h
    · rw [h];exact hfresh
    · rw [List.mem_singleton.mp h];exact hax1.2.2
  · intro p hp hm
    have a:=ltN p hp
    have:p.1=s.heap.objs.size:=List.mem_singleton.mp hm
    rw [this] at a
    exact Nat.lt_irrefl _ a
  · exact ⟨⟨_,Heap.get?_push_size _ rfl,rfl,rfl⟩,hl1.at fun o e=>up _ o e⟩
  · rintro i v h₀' m₁ news₁ h₁ tk₁ own hCh hi hv ⟨hJ,hlt⟩ hnw hof hfo hst F₁ N₁
    refine oe1 hst.1 ?_;intro oI z0;refine oa2 z0 ?_;(try clear z0);intro heI _
    have hv':(k23 4)[i]?=some v:=by simpa using hv
    have Nl:=N₁ _ (List.mem_append.mpr (.inr hJ.2))
    refine step i v hv' h₀' m₁ news₁ h₁ tk₁ oI hCh hJ hlt F₁ (fun q hq=>?_) _ fun h₀'' h'' tk m' news' hC' F' N' hlt' hJ'=>?_
    · rcases List.mem_cons.mp hq with rfl | hq
      · exact N₁ _ (List.mem_append.mpr (.inl (hfo _ (.head _) _ heI)))
      · exact N₁ _ (List.mem_append.mpr (.inr hq))
    · refine ⟨rfl,h₀'',h'',tk,m',news',hC',rfl,F',fun q hq=>?_,fun p hp hm=>?_,hJ',hlt'⟩
      · rcases List.mem_append.mp hq with hq | hq
        · have e2:=(N₁ q (List.mem_append.mpr (.inl hq))).1
          obtain ⟨a,b⟩:=q
          dsimp only at e2
          rcases List.mem_cons.mp (hof _ hq) with e1 | e1
          · dsimp only at e1
            subst e1
            rw [heI] at e2
            cases e2
            exact N' _ (.head _)
          · have e1:=List.mem_singleton.mp e1
            dsimp only at e1
            subst e1
            rw [Nl.1] at e2
            cases e2
            exact N' _ (.tail _ hJ'.2)
        · exact N' q (.tail _ hq)
      · have a:=hlt' p hp
        have:p.1=s.heap.objs.size:=List.mem_singleton.mp hm
        rw [this] at a
        exact a.elim (Nat.lt_irrefl _) (Nat.lt_irrefl _)
  · intro h₀' h'' tk m' news' hCh F' N' hJ
    rw [hn] at hJ
    exact done h₀' h'' tk m' news' hCh F' N' hJ.1.1
end Z0
theorem h_61:∀ j,j<61→∀ u,Pf j u:=histS 60 h_60 (gen 60 h_60 (by with_unfolding_all exact Z0.c_listX))
theorem listX {prog:Program} {w:World} {A:Around} {E:Value→Shared→Prop} {s:Shared} {env:Env} {h₀:Heap} {body:List PySem.Stmt} {Q:Flow→Shared→Prop} {x:Str} {pos:Pos} {l:Addr} {nl:Nat} {xs:List Value} {m:Str→Option Value} {news:Led} (C:Heap→Prop) : P_listX prog w E s env h₀ body pos l nl xs m news C A Q x:=by with_unfolding_all exact h_61 60 (Nat.lt_succ_self 60) (sk0 |>.set 0 0 prog |>.set 1 0 w |>.set 3 0 E |>.set 4 0 s |>.set 18 0 env |>.set 5 0 h₀ |>.set 20 0 body |>.set 56 0 pos |>.set 6 1 l |>.set 12 18 nl |>.set 23 4 xs |>.set 7 0 m |>.set 22 2 news |>.set 52 0 C) A Q x
end
end Mine
namespace Mine
open PyProof.V PyProof.Rows.LCg
theorem off_st1 {w:World} {A:Ad} {σ:Sg} {l:Led} {d:Addr} (h:St w A σ l) (hd:d ∉ A.all) : Off [d] l:=fun q hq e=>hd (by
  rw [← h.adr,← List.mem_singleton.mp e]
  exact List.mem_map.mpr ⟨q,hq,rfl⟩)
theorem ne_st {w:World} {A:Ad} {σ:Sg} {l T:Led} {d:Addr} (h:St w A σ l) (hd:d ∉ A.all) (ht:∀ q∈T,@Ne Nat q.1 d) : ∀ q∈l++T,@Ne Nat q.1 d:=fun q hq=>by
  rcases List.mem_append.mp hq with h1 | h1
  · exact fun e=>off_st1 h hd q h1 (List.mem_singleton.mpr e)
  · exact ht q h1
section
variable {prog:Program} {w:World} {A:Around} {E:Value→Shared→Prop} {s:Shared} {h₀:Heap} {L D T:Addr} {m:Str→Option Value} {news news':Led} {n:Nat} {i j:Int} {t tv:Tok} {x:Int→Addr}
theorem set_homes {Q:Unit→Shared→Prop} (F:Fr h₀ L s.heap m) (N:News h₀ L s.heap news) (hi:i∈ids) (U:Upd D (listOf #[.ref (x 0),.ref (x 1),.ref (x 2),.ref (x 3)] n) (listOf #[.ref (updA x i T 0),.ref (updA x i T 1),.ref (updA x i T 2),.ref (updA x i T 3)] n) news news')
    (h:∀ h',Fr h₀ L h' m→News h₀ L h' news'→Q () { s with heap:=h' }) : wpAny (model prog w) A (setItem (.ref D) (.int i t) (.ref T)) Q E s:=by
  refine ki_set (q:=[.ref (updA x i T 0),.ref (updA x i T 1),.ref (updA x i T 2),.ref (updA x i T 3)]) F N (ids_iff.mp hi).1 (by have:=ids_iff.mp hi;omega) ?_ U h
  have:=ids4 hi
  rcases this with rfl | rfl | rfl | rfl <;> rfl
theorem set_spots {f:Int→Int} {k:Int} {s0 s1:Tok} {Q:Unit→Shared→Prop} (F:Fr h₀ L s.heap m) (N:News h₀ L s.heap news) (hj:j∈sides) (U:Upd D (listOf #[.int (f 0) s0,.int (f 1) s1] n) (listOf #[.int (upd f j k 0) (if j=0 then tv else s0),.int (upd f j k 1) (if j=0 then s1 else tv)] n) news news')
    (h:∀ h',Fr h₀ L h' m→News h₀ L h' news'→Q () { s with heap:=h' }) : wpAny (model prog w) A (setItem (.ref D) (.int j t) (.int k tv)) Q E s:=by
  refine ki_set (q:=[.int (upd f j k 0) (if j=0 then tv else s0),.int (upd f j k 1) (if j=0 then s1 else tv)]) F N (sides_iff.mp hj).1 (by have:=sides_iff.mp hj;omega) ?_ U h
  have:=sides2 hj
  rcases this with rfl | rfl <;> rfl
end
theorem rows_upd {x:Int→Addr} {hm p:Int→Int} {u u':Int→Tok} {l:Led} {i h q:Int} {T:Addr} {b b':Tok} (hT:(T,tupO h q b b')∈l) (hx:∀ k∈ids,(x k,tupO (hm k) (p k) (u k) (u' k))∈l) : ∀ k∈ids,(updA x i T k,tupO (upd hm i h k) (upd p i q k) (updT u i b k) (updT u' i b' k))∈l:=fun k hk=>by
  unfold updA upd updT
  by_cases e:k=i
  · simp only [e,if_true];exact hT
  · simp only [e,if_false];exact hx k hk
theorem fcell {L k a:Nat} (lt:529<L∧541<L) (h:a=529∨a=541∨L+8<a) (hk:1≤k∧k≤8) : a≠L+k:=by omega
theorem cell_ne {L a b:Nat} (h:a≠b) : L+a≠L+b:=fun e=>h (Nat.add_left_cancel e)
theorem cell_lt {L a k:Nat} (h:k≤8) (l:L+8<a) : L+k≠a:=Nat.ne_of_lt (Nat.lt_of_le_of_lt (Nat.add_le_add_left h L) l)
theorem LI.ne_dl {w:World} {L I:Nat} {A:Ad} {σ:Sg} {dl bl ow sp hl:Addr} {x:Int→Addr} {S T1 T2:Led} {dv:List Value} {dn:List Int} (II:LI w L I A σ dl bl ow sp hl x S T1 T2 dv dn) : @Ne Nat I (dl)∧@Ne Nat (L+1+1+1+1+1+1+1+1) (dl)∧@Ne Nat (L+1+1+1+1+1+1+1) (dl)∧@Ne Nat (L+1+1+1+1+1+1) (dl)∧@Ne Nat (L+1+1+1+1+1) (dl)∧@Ne Nat (L+1+1+1+1) (dl)∧@Ne Nat (L+1+1+1) (dl)∧@Ne Nat (L+1+1) (dl)∧@Ne Nat (L+1) (dl)∧@Ne Nat bl (dl)∧@Ne Nat ow (dl)∧@Ne Nat sp (dl)∧@Ne Nat hl (dl)∧@Ne Nat (x 0) (dl)∧@Ne Nat (x 1) (dl)∧@Ne Nat (x 2) (dl)∧@Ne Nat (x 3) (dl):=by
  obtain ⟨-,-,-,-,-,-,-,-,lo,lI,-,-,-,-,⟨d1,d2,d3,d4,d5,d6,d7,d8,d9⟩,dix⟩:=II
  exact ⟨(lo dl (by k_extra "mem")).2.symm,cell_lt (k:=8) (by decide) (lo dl (by k_extra "mem")).1,cell_lt (k:=7) (by decide) (lo dl (by k_extra "mem")).1,cell_lt (k:=6) (by decide) (lo dl (by k_extra "mem")).1,cell_lt (k:=5) (by decide) (lo dl (by k_extra "mem")).1,cell_lt (k:=4) (by decide) (lo dl (by k_extra "mem")).1,cell_lt (k:=3) (by decide) (lo dl (by k_extra "mem")).1,cell_lt (k:=2) (by decide) (lo dl (by k_extra "mem")).1,cell_lt (k:=1) (by decide) (lo dl (by k_extra "mem")).1,d1.symm,d2.symm,d3.symm,d4.symm,(dix 0 (by decide)).1.symm,(dix 1 (by decide)).1.symm,(dix 2 (by decide)).1.symm,(dix 3 (by decide)).1.symm⟩
theorem LI.ne_sp {w:World} {L I:Nat} {A:Ad} {σ:Sg} {dl bl ow sp hl:Addr} {x:Int→Addr} {S T1 T2:Led} {dv:List Value} {dn:List Int} (II:LI w L I A σ dl bl ow sp hl x S T1 T2 dv dn) : @Ne Nat I (sp)∧@Ne Nat (L+1+1+1+1+1+1+1+1) (sp)∧@Ne Nat (L+1+1+1+1+1+1+1) (sp)∧@Ne Nat (L+1+1+1+1+1+1) (sp)∧@Ne Nat (L+1+1+1+1+1) (sp)∧@Ne Nat (L+1+1+1+1) (sp)∧@Ne Nat (L+1+1+1) (sp)∧@Ne Nat (L+1+1) (sp)∧@Ne Nat (L+1) (sp)∧@Ne Nat dl (sp)∧@Ne Nat bl (sp)∧@Ne Nat ow (sp)∧@Ne Nat hl (sp)∧@Ne Nat (x 0) (sp)∧@Ne Nat (x 1) (sp)∧@Ne Nat (x 2) (sp)∧@Ne Nat (x 3) (sp):=by
  obtain ⟨-,-,-,-,-,-,-,-,lo,lI,-,-,-,-,⟨d1,d2,d3,d4,d5,d6,d7,d8,d9⟩,dix⟩:=II
  exact ⟨(lo sp (by k_extra "mem")).2.symm,cell_lt (k:=8) (by decide) (lo sp (by k_extra "mem")).1,cell_lt (k:=7) (by decide) (lo sp (by k_extra "mem")).1,cell_lt (k:=6) (by decide) (lo sp (by k_extra "mem")).1,cell_lt (k:=5) (by decide) (lo sp (by k_extra "mem")).1,cell_lt (k:=4) (by decide) (lo sp (by k_extra "mem")).1,cell_lt (k:=3) (by decide) (lo sp (by k_extra "mem")).1,cell_lt (k:=2) (by decide) (lo sp (by k_extra "mem")).1,cell_lt (k:=1) (by decide) (lo sp (by k_extra "mem")).1,d3,d5,d7,d9.symm,(dix 0 (by decide)).2.1.symm,(dix 1 (by decide)).2.1.symm,(dix 2 (by decide)).2.1.symm,(dix 3 (by decide)).2.1.symm⟩
theorem LI.ne_hl {w:World} {L I:Nat} {A:Ad} {σ:Sg} {dl bl ow sp hl:Addr} {x:Int→Addr} {S T1 T2:Led} {dv:List Value} {dn:List Int} (II:LI w L I A σ dl bl ow sp hl x S T1 T2 dv dn) : @Ne Nat I (hl)∧@Ne Nat (L+1+1+1+1+1+1+1+1) (hl)∧@Ne Nat (L+1+1+1+1+1+1+1) (hl)∧@Ne Nat (L+1+1+1+1+1+1) (hl)∧@Ne Nat (L+1+1+1+1+1) (hl)∧@Ne Nat (L+1+1+1+1) (hl)∧@Ne Nat (L+1+1+1) (hl)∧@Ne Nat (L+1+1) (hl)∧@Ne Nat (L+1) (hl)∧@Ne Nat dl (hl)∧@Ne Nat bl (hl)∧@Ne Nat ow (hl)∧@Ne Nat sp (hl)∧@Ne Nat (x 0) (hl)∧@Ne Nat (x 1) (hl)∧@Ne Nat (x 2) (hl)∧@Ne Nat (x 3) (hl):=by
  obtain ⟨-,-,-,-,-,-,-,-,lo,lI,-,-,-,-,⟨d1,d2,d3,d4,d5,d6,d7,d8,d9⟩,dix⟩:=II
  exact ⟨(lo hl (by k_extra "mem")).2.symm,cell_lt (k:=8) (by decide) (lo hl (by k_extra "mem")).1,cell_lt (k:=7) (by decide) (lo hl (by k_extra "mem")).1,cell_lt (k:=6) (by decide) (lo hl (by k_extra "mem")).1,cell_lt (k:=5) (by decide) (lo hl (by k_extra "mem")).1,cell_lt (k:=4) (by decide) (lo hl (by k_extra "mem")).1,cell_lt (k:=3) (by decide) (lo hl (by k_extra "mem")).1,cell_lt (k:=2) (by decide) (lo hl (by k_extra "mem")).1,cell_lt (k:=1) (by decide) (lo hl (by k_extra "mem")).1,d4,d6,d8,d9,(dix 0 (by decide)).2.2.symm,(dix 1 (by decide)).2.2.symm,(dix 2 (by decide)).2.2.symm,(dix 3 (by decide)).2.2.symm⟩
theorem LI.ne_c1 {w:World} {L I:Nat} {A:Ad} {σ:Sg} {dl bl ow sp hl:Addr} {x:Int→Addr} {S T1 T2:Led} {dv:List Value} {dn:List Int} (II:LI w L I A σ dl bl ow sp hl x S T1 T2 dv dn) : @Ne Nat I (L+1)∧@Ne Nat (L+1+1+1+1+1+1+1+1) (L+1)∧@Ne Nat (L+1+1+1+1+1+1+1) (L+1)∧@Ne Nat (L+1+1+1+1+1+1) (L+1)∧@Ne Nat (L+1+1+1+1+1) (L+1)∧@Ne Nat (L+1+1+1+1) (L+1)∧@Ne Nat (L+1+1+1) (L+1)∧@Ne Nat (L+1+1) (L+1)∧@Ne Nat dl (L+1)∧@Ne Nat bl (L+1)∧@Ne Nat ow (L+1)∧@Ne Nat sp (L+1)∧@Ne Nat hl (L+1)∧@Ne Nat (x 0) (L+1)∧@Ne Nat (x 1) (L+1)∧@Ne Nat (x 2) (L+1)∧@Ne Nat (x 3) (L+1):=by
  obtain ⟨-,-,-,-,-,-,-,-,lo,lI,-,-,-,-,⟨d1,d2,d3,d4,d5,d6,d7,d8,d9⟩,dix⟩:=II
  exact ⟨(cell_lt (k:=1) (by decide) lI).symm,cell_ne (a:=8) (b:=1) (by decide),cell_ne (a:=7) (b:=1) (by decide),cell_ne (a:=6) (b:=1) (by decide),cell_ne (a:=5) (b:=1) (by decide),cell_ne (a:=4) (b:=1) (by decide),cell_ne (a:=3) (b:=1) (by decide),cell_ne (a:=2) (b:=1) (by decide),(cell_lt (k:=1) (by decide) (lo dl (by k_extra "mem")).1).symm,(cell_lt (k:=1) (by decide) (lo bl (by k_extra "mem")).1).symm,(cell_lt (k:=1) (by decide) (lo ow (by k_extra "mem")).1).symm,(cell_lt (k:=1) (by decide) (lo sp (by k_extra "mem")).1).symm,(cell_lt (k:=1) (by decide) (lo hl (by k_extra "mem")).1).symm,(cell_lt (k:=1) (by decide) (lo (x 0) (by k_extra "mem")).1).symm,(cell_lt (k:=1) (by decide) (lo (x 1) (by k_extra "mem")).1).symm,(cell_lt (k:=1) (by decide) (lo (x 2) (by k_extra "mem")).1).symm,(cell_lt (k:=1) (by decide) (lo (x 3) (by k_extra "mem")).1).symm⟩
theorem LI.ne_c2 {w:World} {L I:Nat} {A:Ad} {σ:Sg} {dl bl ow sp hl:Addr} {x:Int→Addr} {S T1 T2:Led} {dv:List Value} {dn:List Int} (II:LI w L I A σ dl bl ow sp hl x S T1 T2 dv dn) : @Ne Nat I (L+1+1)∧@Ne Nat (L+1+1+1+1+1+1+1+1) (L+1+1)∧@Ne Nat (L+1+1+1+1+1+1+1) (L+1+1)∧@Ne Nat (L+1+1+1+1+1+1) (L+1+1)∧@Ne Nat (L+1+1+1+1+1) (L+1+1)∧@Ne Nat (L+1+1+1+1) (L+1+1)∧@Ne Nat (L+1+1+1) (L+1+1)∧@Ne Nat (L+1) (L+1+1)∧@Ne Nat dl (L+1+1)∧@Ne Nat bl (L+1+1)∧@Ne Nat ow (L+1+1)∧@Ne Nat sp (L+1+1)∧@Ne Nat hl (L+1+1)∧@Ne Nat (x 0) (L+1+1)∧@Ne Nat (x 1) (L+1+1)∧@Ne Nat (x 2) (L+1+1)∧@Ne Nat (x 3) (L+1+1):=by
  obtain ⟨-,-,-,-,-,-,-,-,lo,lI,-,-,-,-,⟨d1,d2,d3,d4,d5,d6,d7,d8,d9⟩,dix⟩:=II
  exact ⟨(cell_lt (k:=2) (by decide) lI).symm,cell_ne (a:=8) (b:=2) (by decide),cell_ne (a:=7) (b:=2) (by decide),cell_ne (a:=6) (b:=2) (by decide),cell_ne (a:=5) (b:=2) (by decide),cell_ne (a:=4) (b:=2) (by decide),cell_ne (a:=3) (b:=2) (by decide),cell_ne (a:=1) (b:=2) (by decide),(cell_lt (k:=2) (by decide) (lo dl (by k_extra "mem")).1).symm,(cell_lt (k:=2) (by decide) (lo bl (by k_extra "mem")).1).symm,(cell_lt (k:=2) (by decide) (lo ow (by k_extra "mem")).1).symm,(cell_lt (k:=2) (by decide) (lo sp (by k_extra "mem")).1).symm,(cell_lt (k:=2) (by decide) (lo hl (by k_extra "mem")).1).symm,(cell_lt (k:=2) (by decide) (lo (x 0) (by k_extra "mem")).1).symm,(cell_lt (k:=2) (by decide) (lo (x 1) (by k_extra "mem")).1).symm,(cell_lt (k:=2) (by decide) (lo (x 2) (by k_extra "mem")).1).symm,(cell_lt (k:=2) (by decide) (lo (x 3) (by k_extra "mem")).1).symm⟩
theorem LI.ne_c3 {w:World} {L I:Nat} {A:Ad} {σ:Sg} {dl bl ow sp hl:Addr} {x:Int→Addr} {S T1 T2:Led} {dv:List Value} {dn:List Int} (II:LI w L I A σ dl bl ow sp hl x S T1 T2 dv dn) : @Ne Nat I (L+1+1+1)∧@Ne Nat (L+1+1+1+1+1+1+1+1) (L+1+1+1)∧@Ne Nat (L+1+1+1+1+1+1+1) (L+1+1+1)∧@Ne Nat (L+1+1+1+1+1+1) (L+1+1+1)∧@Ne Nat (L+1+1+1+1+1) (L+1+1+1)∧@Ne Nat (L+1+1+1+1) (L+1+1+1)∧@Ne Nat (L+1+1) (L+1+1+1)∧@Ne Nat (L+1) (L+1+1+1)∧@Ne Nat dl (L+1+1+1)∧@Ne Nat bl (L+1+1+1)∧@Ne Nat ow (L+1+1+1)∧@Ne Nat sp (L+1+1+1)∧@Ne Nat hl (L+1+1+1)∧@Ne Nat (x 0) (L+1+1+1)∧@Ne Nat (x 1) (L+1+1+1)∧@Ne Nat (x 2) (L+1+1+1)∧@Ne Nat (x 3) (L+1+1+1):=by
  obtain ⟨-,-,-,-,-,-,-,-,lo,lI,-,-,-,-,⟨d1,d2,d3,d4,d5,d6,d7,d8,d9⟩,dix⟩:=II
  exact ⟨(cell_lt (k:=3) (by decide) lI).symm,cell_ne (a:=8) (b:=3) (by decide),cell_ne (a:=7) (b:=3) (by decide),cell_ne (a:=6) (b:=3) (by decide),cell_ne (a:=5) (b:=3) (by decide),cell_ne (a:=4) (b:=3) (by decide),cell_ne (a:=2) (b:=3) (by decide),cell_ne (a:=1) (b:=3) (by decide),(cell_lt (k:=3) (by decide) (lo dl (by k_extra "mem")).1).symm,(cell_lt (k:=3) (by decide) (lo bl (by k_extra "mem")).1).symm,(cell_lt (k:=3) (by decide) (lo ow (by k_extra "mem")).1).symm,(cell_lt (k:=3) (by decide) (lo sp (by k_extra "mem")).1).symm,(cell_lt (k:=3) (by decide) (lo hl (by k_extra "mem")).1).symm,(cell_lt (k:=3) (by decide) (lo (x 0) (by k_extra "mem")).1).symm,(cell_lt (k:=3) (by decide) (lo (x 1) (by k_extra "mem")).1).symm,(cell_lt (k:=3) (by decide) (lo (x 2) (by k_extra "mem")).1).symm,(cell_lt (k:=3) (by decide) (lo (x 3) (by k_extra "mem")).1).symm⟩
theorem LI.ne_c4 {w:World} {L I:Nat} {A:Ad} {σ:Sg} {dl bl ow sp hl:Addr} {x:Int→Addr} {S T1 T2:Led} {dv:List Value} {dn:List Int} (II:LI w L I A σ dl bl ow sp hl x S T1 T2 dv dn) : @Ne Nat I (L+1+1+1+1)∧@Ne Nat (L+1+1+1+1+1+1+1+1) (L+1+1+1+1)∧@Ne Nat (L+1+1+1+1+1+1+1) (L+1+1+1+1)∧@Ne Nat (L+1+1+1+1+1+1) (L+1+1+1+1)∧@Ne Nat (L+1+1+1+1+1) (L+1+1+1+1)∧@Ne Nat (L+1+1+1) (L+1+1+1+1)∧@Ne Nat (L+1+1) (L+1+1+1+1)∧@Ne Nat (L+1) (L+1+1+1+1)∧@Ne Nat dl (L+1+1+1+1)∧@Ne Nat bl (L+1+1+1+1)∧@Ne Nat ow (L+1+1+1+1)∧@Ne Nat sp (L+1+1+1+1)∧@Ne Nat hl (L+1+1+1+1)∧@Ne Nat (x 0) (L+1+1+1+1)∧@Ne Nat (x 1) (L+1+1+1+1)∧@Ne Nat (x 2) (L+1+1+1+1)∧@Ne Nat (x 3) (L+1+1+1+1):=by
  obtain ⟨-,-,-,-,-,-,-,-,lo,lI,-,-,-,-,⟨d1,d2,d3,d4,d5,d6,d7,d8,d9⟩,dix⟩:=II
  exact ⟨(cell_lt (k:=4) (by decide) lI).symm,cell_ne (a:=8) (b:=4) (by decide),cell_ne (a:=7) (b:=4) (by decide),cell_ne (a:=6) (b:=4) (by decide),cell_ne (a:=5) (b:=4) (by decide),cell_ne (a:=3) (b:=4) (by decide),cell_ne (a:=2) (b:=4) (by decide),cell_ne (a:=1) (b:=4) (by decide),(cell_lt (k:=4) (by decide) (lo dl (by k_extra "mem")).1).symm,(cell_lt (k:=4) (by decide) (lo bl (by k_extra "mem")).1).symm,(cell_lt (k:=4) (by decide) (lo ow (by k_extra "mem")).1).symm,(cell_lt (k:=4) (by decide) (lo sp (by k_extra "mem")).1).symm,(cell_lt (k:=4) (by decide) (lo hl (by k_extra "mem")).1).symm,(cell_lt (k:=4) (by decide) (lo (x 0) (by k_extra "mem")).1).symm,(cell_lt (k:=4) (by decide) (lo (x 1) (by k_extra "mem")).1).symm,(cell_lt (k:=4) (by decide) (lo (x 2) (by k_extra "mem")).1).symm,(cell_lt (k:=4) (by decide) (lo (x 3) (by k_extra "mem")).1).symm⟩
theorem LI.ne_c5 {w:World} {L I:Nat} {A:Ad} {σ:Sg} {dl bl ow sp hl:Addr} {x:Int→Addr} {S T1 T2:Led} {dv:List Value} {dn:List Int} (II:LI w L I A σ dl bl ow sp hl x S T1 T2 dv dn) : @Ne Nat I (L+1+1+1+1+1)∧@Ne Nat (L+1+1+1+1+1+1+1+1) (L+1+1+1+1+1)∧@Ne Nat (L+1+1+1+1+1+1+1) (L+1+1+1+1+1)∧@Ne Nat (L+1+1+1+1+1+1) (L+1+1+1+1+1)∧@Ne Nat (L+1+1+1+1) (L+1+1+1+1+1)∧@Ne Nat (L+1+1+1) (L+1+1+1+1+1)∧@Ne Nat (L+1+1) (L+1+1+1+1+1)∧@Ne Nat (L+1) (L+1+1+1+1+1)∧@Ne Nat dl (L+1+1+1+1+1)∧@Ne Nat bl (L+1+1+1+1+1)∧@Ne Nat ow (L+1+1+1+1+1)∧@Ne Nat sp (L+1+1+1+1+1)∧@Ne Nat hl (L+1+1+1+1+1)∧@Ne Nat (x 0) (L+1+1+1+1+1)∧@Ne Nat (x 1) (L+1+1+1+1+1)∧@Ne Nat (x 2) (L+1+1+1+1+1)∧@Ne Nat (x 3) (L+1+1+1+1+1):=by
  obtain ⟨-,-,-,-,-,-,-,-,lo,lI,-,-,-,-,⟨d1,d2,d3,d4,d5,d6,d7,d8,d9⟩,dix⟩:=II
  exact ⟨(cell_lt (k:=5) (by decide) lI).symm,cell_ne (a:=8) (b:=5) (by decide),cell_ne (a:=7) (b:=5) (by decide),cell_ne (a:=6) (b:=5) (by decide),cell_ne (a:=4) (b:=5) (by decide),cell_ne (a:=3) (b:=5) (by decide),cell_ne (a:=2) (b:=5) (by decide),cell_ne (a:=1) (b:=5) (by decide),(cell_lt (k:=5) (by decide) (lo dl (by k_extra "mem")).1).symm,(cell_lt (k:=5) (by decide) (lo bl (by k_extra "mem")).1).symm,(cell_lt (k:=5) (by decide) (lo ow (by k_extra "mem")).1).symm,(cell_lt (k:=5) (by decide) (lo sp (by k_extra "mem")).1).symm,(cell_lt (k:=5) (by decide) (lo hl (by k_extra "mem")).1).symm,(cell_lt (k:=5) (by decide) (lo (x 0) (by k_extra "mem")).1).symm,(cell_lt (k:=5) (by decide) (lo (x 1) (by k_extra "mem")).1).symm,(cell_lt (k:=5) (by decide) (lo (x 2) (by k_extra "mem")).1).symm,(cell_lt (k:=5) (by decide) (lo (x 3) (by k_extra "mem")).1).symm⟩
namespace Z3
theorem c_LI_ne_c7:P_LI_ne_c7 w L I A σ dl bl ow sp hl x S T1 T2 dv dn:=by
  intro II
  obtain ⟨-,-,-,-,-,-,-,-,lo,lI,-,-,-,-,⟨d1,d2,d3,d4,d5,d6,d7,d8,d9⟩,dix⟩:=II
  exact ⟨(cell_lt (k:=7) (by decide) lI).symm,cell_ne (a:=8) (b:=7) (by decide),cell_ne (a:=6) (b:=7) (by decide),cell_ne (a:=5) (b:=7) (by decide),cell_ne (a:=4) (b:=7) (by decide),cell_ne (a:=3) (b:=7) (by decide),cell_ne (a:=2) (b:=7) (by decide),cell_ne (a:=1) (b:=7) (by decide),(cell_lt (k:=7) (by decide) (lo dl (by k_extra "mem")).1).symm,(cell_lt (k:=7) (by decide) (lo bl (by k_extra "mem")).1).symm,(cell_lt (k:=7) (by decide) (lo ow (by k_extra "mem")).1).symm,(cell_lt (k:=7) (by decide) (lo sp (by k_extra "mem")).1).symm,(cell_lt (k:=7) (by decide) (lo hl (by k_extra "mem")).1).symm,(cell_lt (k:=7) (by decide) (lo (x 0) (by k_extra "mem")).1).symm,(cell_lt (k:=7) (by decide) (lo (x 1) (by k_extra "mem")).1).symm,(cell_lt (k:=7) (by decide) (lo (x 2) (by k_extra "mem")).1).symm,(cell_lt (k:=7) (by decide) (lo (x 3) (by k_extra "mem")).1).symm⟩
end Z3
theorem h_62:∀ j,j<62→∀ u,Pf j u:=histS 61 h_61 (gen 61 h_61 (by with_unfolding_all exact Z3.c_LI_ne_c7))
theorem LI.ne_c7 {w:World} {L I:Nat} {A:Ad} {σ:Sg} {dl bl ow sp hl:Addr} {x:Int→Addr} {S T1 T2:Led} {dv:List Value} {dn:List Int} : P_LI_ne_c7 w L I A σ dl bl ow sp hl x S T1 T2 dv dn:=by with_unfolding_all exact h_62 61 (Nat.lt_succ_self 61) (sk0 |>.set 1 0 w |>.set 12 19 L |>.set 12 20 I |>.set 25 0 A |>.set 28 0 σ |>.set 6 22 dl |>.set 6 18 bl |>.set 6 20 ow |>.set 6 19 sp |>.set 6 21 hl |>.set 60 0 x |>.set 22 4 S |>.set 22 6 T1 |>.set 22 7 T2 |>.set 23 6 dv |>.set 24 2 dn)
theorem allLt_mem {d:Addr} : ∀ {l:Led},AllLt d l→∀ p∈l,@LT.lt Nat _ p.1 d
  | [],_,_,h=>nomatch h
  | _::_,x,p,h=>by
    rcases List.mem_cons.mp h with rfl | h
    · exact x.1
    · exact allLt_mem x.2 p h
theorem ml_of {m':Str→Option Value} {dl hl sp:Addr} (h1:m' (ofString "deck")=some (.ref dl)) (h2:m' (ofString "homes")=some (.ref hl)) (h3:m' (ofString "spots")=some (.ref sp)) : m'=fun y=>(if y=ofString "deck" then some (.ref dl) else if y=ofString "homes" then some (.ref hl) else if y=ofString "spots" then some (.ref sp) else m' y):=by
  funext y
  split
  · rename_i e;rw [e];exact h1
  · split
    · rename_i e;rw [e];exact h2
    · split
      · rename_i e;rw [e];exact h3
      · rfl
namespace Z3
theorem c_LI_row:P_LI_row w L I A σ (k28 1) dl bl ow sp hl x S S' T1 T2 dv dv' dn dn' i T:=by
  intro II hS di dz l1 good pts
  obtain ⟨ok,_,t1,t2,_,_,_,_,lo,lI,lt,na,tt,tn,dis,dix⟩:=II
  refine and19 (l1) ?_;intro l_I _ _ _ _ _ _ _ _ l_dl l_bl l_ow l_sp l_hl _ _ _ _ lS
  have lA:∀ a∈A.all,@LT.lt Nat _ a T:=fun a ha=>by
    rw [← hS.adr] at ha
    refine oe1 (List.mem_map.mp ha) ?_;intro q z0;refine oa2 z0 ?_;(try clear z0);intro hq z24;obtain rfl:=z24
    exact allLt_mem lS q (List.mem_append.mpr (.inl hq))
  have nT:T ∉ A.all:=fun h=>Nat.lt_irrefl _ (lA T h)
  have hx:∀ k∈ids,updA x i T k=T∨updA x i T k=x k:=fun k _=>by
    unfold updA
    split
    · exact .inl rfl
    · exact .inr rfl
  have m0:∀ k∈ids,x k∈[dl,bl,ow,sp,hl,x 0,x 1,x 2,x 3]:=fun k hk=>by
    have:=ids4 hk
    rcases this with rfl | rfl | rfl | rfl <;> simp
  have mem:∀ a:Addr,a∈[dl,bl,ow,sp,hl,updA x i T 0,updA x i T 1,updA x i T 2,updA x i T 3]→a=T∨a∈[dl,bl,ow,sp,hl,x 0,x 1,x 2,x 3]:=fun a h=>by
    have go:∀ k∈ids,a=updA x i T k→a=T∨a∈[dl,bl,ow,sp,hl,x 0,x 1,x 2,x 3]:=fun k hk e=>by
      rcases hx k hk with z | z
      · exact .inl (e.trans z)
      · exact .inr (by rw [e,z];exact m0 k hk)
    simp only [List.mem_cons,List.not_mem_nil,or_false] at h
    rcases h with h | h | h | h | h | h | h | h | h
    · exact .inr (by rw [h];k_extra "mem")
    · exact .inr (by rw [h];k_extra "mem")
    · exact .inr (by rw [h];k_extra "mem")
    · exact .inr (by rw [h];k_extra "mem")
    · exact .inr (by rw [h];k_extra "mem")
    · exact go 0 (by decide) h
    · exact go 1 (by decide) h
    · exact go 2 (by decide) h
    · exact go 3 (by decide) h
  have hTL:L+8<T:=Nat.lt_trans lI l_I
  refine ⟨ok,hS,t1,t2,di,dz,good,pts,fun a h=>?_,lI,lt,fun a h=>?_,tt,tn,dis,fun k hk=>?_⟩
  · rcases List.mem_append.mp h with h | h
    · rcases mem a h with rfl | h
      · exact ⟨hTL,Nat.ne_of_gt l_I⟩
      · exact lo a (List.mem_append.mpr (.inl h))
    · exact lo a (List.mem_append.mpr (.inr h))
  · rcases mem a h with rfl | h
    · exact nT
    · exact na a h
  · rcases hx k hk with z | z
    · rw [z];exact ⟨Nat.ne_of_lt l_dl,Nat.ne_of_lt l_sp,Nat.ne_of_lt l_hl⟩
    · rw [z];exact dix k hk
end Z3
theorem h_63:∀ j,j<63→∀ u,Pf j u:=histS 62 h_62 (gen 62 h_62 (by with_unfolding_all exact Z3.c_LI_row))
theorem LI.row {w:World} {L I:Nat} {A:Ad} {σ σ':Sg} {dl bl ow sp hl:Addr} {x:Int→Addr} {S S' T1 T2:Led} {dv dv':List Value} {dn dn':List Int} {i:Int} {T:Addr} : P_LI_row w L I A σ σ' dl bl ow sp hl x S S' T1 T2 dv dv' dn dn' i T:=by with_unfolding_all exact h_63 62 (Nat.lt_succ_self 62) (sk0 |>.set 1 0 w |>.set 12 19 L |>.set 12 20 I |>.set 25 0 A |>.set 28 0 σ |>.set 28 1 σ' |>.set 6 22 dl |>.set 6 18 bl |>.set 6 20 ow |>.set 6 19 sp |>.set 6 21 hl |>.set 60 0 x |>.set 22 4 S |>.set 22 8 S' |>.set 22 6 T1 |>.set 22 7 T2 |>.set 23 6 dv |>.set 23 7 dv' |>.set 24 2 dn |>.set 24 3 dn' |>.set 15 7 i |>.set 6 23 T)
theorem LI.same {w:World} {L I:Nat} {A:Ad} {σ σ':Sg} {dl bl ow sp hl:Addr} {x:Int→Addr} {S S' T1 T2:Led} {dv dv':List Value} {dn dn':List Int} (II:LI w L I A σ dl bl ow sp hl x S T1 T2 dv dn) (hS:St w A σ' S') (di:IntsAre dv' dn') (dz:dn'.length≤20)
    (good:∀ i∈ids,(σ'.home i=-1∧σ'.pos i=0)∨(σ'.home i∈sides∧1≤σ'.pos i∧σ'.pos i≤σ'.size (σ'.home i)+1)) (pts:∀ j∈sides,0≤σ'.size j∧σ'.size j≤σ'.lim∧1≤σ'.point j∧σ'.point j≤σ'.size j+1) : LI w L I A σ' dl bl ow sp hl x S' T1 T2 dv' dn':=by
  obtain ⟨ok,_,t1,t2,_,_,_,_,lo,lI,lt,na,tt,tn,dis,dix⟩:=II
  exact ⟨ok,hS,t1,t2,di,dz,good,pts,lo,lI,lt,na,tt,tn,dis,dix⟩
theorem good_set {σ:Sg} {i h q:Int} (good:∀ i∈ids,(σ.home i=-1∧σ.pos i=0)∨(σ.home i∈sides∧1≤σ.pos i∧σ.pos i≤σ.size (σ.home i)+1)) (hq:(h=-1∧q=0)∨(h∈sides∧1≤q∧q≤σ.size h+1)) :
    ∀ k∈ids,(upd σ.home i h k=-1∧upd σ.pos i q k=0)∨(upd σ.home i h k∈sides∧1≤upd σ.pos i q k∧upd σ.pos i q k≤σ.size (upd σ.home i h k)+1):=fun k hk=>by
  by_cases e:k=i
  · subst e;rw [upd_same,upd_same];exact hq
  · rw [upd_other e,upd_other e];exact good k hk
theorem news_rows {x:Int→Addr} {hm p:Int→Int} {u u':Int→Tok} {l pre post:Led} (hx:∀ k∈ids,(x k,tupO (hm k) (p k) (u k) (u' k))∈l) (h1:∀ q∈pre,q∈l) (h2:∀ q∈post,q∈l) : ∀ q∈pre++((x 0,tupO (hm 0) (p 0) (u 0) (u' 0))::(x 1,tupO (hm 1) (p 1) (u 1) (u' 1))::(x 2,tupO (hm 2) (p 2) (u 2) (u' 2))::(x 3,tupO (hm 3) (p 3) (u 3) (u' 3))::post),q∈l:=fun q hq=>by
  rcases List.mem_append.mp hq with h | h
  · exact h1 q h
  · rcases List.mem_cons.mp h with rfl | h
    · exact hx 0 (by decide)
    · rcases List.mem_cons.mp h with rfl | h
      · exact hx 1 (by decide)
      · rcases List.mem_cons.mp h with rfl | h
        · exact hx 2 (by decide)
        · rcases List.mem_cons.mp h with rfl | h
          · exact hx 3 (by decide)
          · exact h2 q h
theorem all_rows {x:Int→Addr} {hm p:Int→Int} {u u':Int→Tok} {l:Led} (h0:(x 0,tupO (hm 0) (p 0) (u 0) (u' 0))∈l) (h1:(x 1,tupO (hm 1) (p 1) (u 1) (u' 1))∈l) (h2:(x 2,tupO (hm 2) (p 2) (u 2) (u' 2))∈l) (h3:(x 3,tupO (hm 3) (p 3) (u 3) (u' 3))∈l) : ∀ k∈ids,(x k,tupO (hm k) (p k) (u k) (u' k))∈l:=fun _ hk=>mem_tup (⟨trivial⟩ : TupSpec x hm p u u') hk h0 h1 h2 h3
namespace Z3
theorem c_lap_row:P_lap_row w L I oI A σ (k28 1) dl bl ow sp hl x u u' S S' T1 T2 dv dv' dn dn' nd nb no ns nh s0 s1 o1 o2 o3 o4 o5 o6 o7 o8 lim h₀ (k5 3) m' i (k15 22) (k15 23) T b b':=by
  intro II hS di dz N x9 l1 eh ep et hlim good pts h1 h2 h3 cs c6 c8
  refine ⟨_,News.sub N ?_,(k28 1),hl,updA x i T,updT u i b,updT u' i b',S',T1,T2,dv',dn',nd,nb,no,ns,nh,s0,s1,_,o1,o2,o3,o4,o5,o6,o7,o8,II.row hS di dz l1 good pts,hlim,ml_of h1 h2 h3,rfl,cs,c6,c8⟩
  rw [et,eh,ep]
  refine news_rows (pre:=[(I,oI),(L+1+1+1+1+1+1+1+1,o8),(L+1+1+1+1+1+1+1,o7),(L+1+1+1+1+1+1,o6),(L+1+1+1+1+1,o5),(L+1+1+1+1,o4),(L+1+1+1,o3),(L+1+1,o2),(L+1,o1),(dl,listOf (List.toArray dv') nd),(bl,listOf #[.ref (A.b 0),.ref (A.b 1)] nb),(ow,listOf #[.ref (A.ma 0),.ref (A.ma 1),.ref (A.ma 2),.ref (A.ma 3)] no),(sp,listOf #[.int (σ.point 0) s0,.int (σ.point 1) s1] ns),(hl,listOf #[.ref (updA x i T 0),.ref (updA x i T 1),.ref (updA x i T 2),.ref (updA x i T 3)] nh)]) (rows_upd (List.mem_cons_self) fun k hk=>.tail _ (all_rows ?_ ?_ ?_ ?_ k hk)) (fun q hq=>.tail _ (List.mem_append_left _ hq)) fun q hq=>?_
  · k_extra "mem"
  · k_extra "mem"
  · k_extra "mem"
  · k_extra "mem"
  · revert q;k_extra "sb"
end Z3
theorem h_64:∀ j,j<64→∀ u,Pf j u:=histS 63 h_63 (gen 63 h_63 (by with_unfolding_all exact Z3.c_lap_row))
theorem lap_row {w:World} {L I:Nat} {oI:Obj} {A:Ad} {σ σ':Sg} {dl bl ow sp hl:Addr} {x:Int→Addr} {u u':Int→Tok} {S S' T1 T2:Led} {dv dv':List Value} {dn dn':List Int} {nd nb no ns nh:Nat} {s0 s1:Tok} {o1 o2 o3 o4 o5 o6 o7 o8:Obj} {lim:Nat} {h₀ h':Heap} {m':Str→Option Value} {i hn pn:Int} {T:Addr} {b b':Tok} : P_lap_row w L I oI A σ σ' dl bl ow sp hl x u u' S S' T1 T2 dv dv' dn dn' nd nb no ns nh s0 s1 o1 o2 o3 o4 o5 o6 o7 o8 lim h₀ h' m' i hn pn T b b':=by with_unfolding_all exact h_64 63 (Nat.lt_succ_self 63) (sk0 |>.set 1 0 w |>.set 12 19 L |>.set 12 20 I |>.set 16 7 oI |>.set 25 0 A |>.set 28 0 σ |>.set 28 1 σ' |>.set 6 22 dl |>.set 6 18 bl |>.set 6 20 ow |>.set 6 19 sp |>.set 6 21 hl |>.set 60 0 x |>.set 61 0 u |>.set 61 1 u' |>.set 22 4 S |>.set 22 8 S' |>.set 22 6 T1 |>.set 22 7 T2 |>.set 23 6 dv |>.set 23 7 dv' |>.set 24 2 dn |>.set 24 3 dn' |>.set 12 21 nd |>.set 12 13 nb |>.set 12 15 no |>.set 12 14 ns |>.set 12 16 nh |>.set 14 26 s0 |>.set 14 27 s1 |>.set 16 8 o1 |>.set 16 9 o2 |>.set 16 10 o3 |>.set 16 11 o4 |>.set 16 12 o5 |>.set 16 13 o6 |>.set 16 14 o7 |>.set 16 15 o8 |>.set 12 3 lim |>.set 5 0 h₀ |>.set 5 3 h' |>.set 7 6 m' |>.set 15 7 i |>.set 15 22 hn |>.set 15 23 pn |>.set 6 23 T |>.set 14 30 b |>.set 14 31 b')
end Mine
namespace Mine
section
theorem kw96_1:True:=by
  k_with "arith" => ((fail_if_success have:=@e96_1);k_whole;k_extra "ar2")
  k_with "kall" => first | assumption | exact ne_st ‹_› ‹_› ‹_›
  k_with "subscriptTail Name Name ref int" => ((fail_if_success have:=@e96_1);k_here;k_dflt (refine' sub_own ?N ?o ?l ?v ?_ ?s ?t;(case o=>assumption);(case N=>k_asm);(case l=>k_mem);(case v=>first | assumption | decide);k_extra "tl"))
  k_with "call ref" => ((fail_if_success have:=@e96_1);k_here;(with_reducible show wpAny _ _ (call (Value.ref 48) [_,Value.none,_]) _ _ _);k_dflt (refine' Spec.useC (ledx:=[]) (st_set_none ?y0 ?y1 ?y2 _ ?hS) ?B ?F ?X ?N ?C ?P ?hr ?T ?hk ?hd ?hu ?_;k_extra "us2";(case y0=>assumption);(case y1=>assumption);(case y2=>assumption);(case hr=>k_extra "h1");k_whole);intro v9 led9 h' tk' hP9;refine oe1 hP9 ?_;(try clear hP9);intro σ9 z0;refine oa2 z0 ?_;(try clear z0);intro z25 hS9;refine oa2 z25 ?_;(try clear z25);intro hv9 hσ9;subst hv9;intro F' N';rw [hσ9] at hS9;clear hσ9;(replace N':=reorder (a:=[]) N');k_extra "nn")
  trivial
namespace Z3
theorem c_way_2:∀ body cs,P_way_2 w dp un gd a A₀ base p loose mean mg mb L I oI A s R P dl bl ow sp h₀ σ hl x u u' S T1 T2 dv dn nd nb no ns nh s0 s1 r o1 o2 o3 o4 o5 o6 o7 o8 v3 v4 v5 at_ side (k14 32) (k14 14) ts body cs:=by
  intro body cs hb XB TB C1 C2 hc hd hu G II hlim ha hs F N c1 c2 c3 c4 c5 c6 c7 c8 next
  cases hb
  cases hc
  dsimp only
  have II0:=II
  refine and17 (II.ne_hl) ?_;intro e_hl_0 e_hl_1 e_hl_2 e_hl_3 e_hl_4 e_hl_5 e_hl_6 e_hl_7 e_hl_8 e_hl_9 e_hl_10 e_hl_11 e_hl_12 e_hl_13 e_hl_14 e_hl_15 e_hl_16
  obtain ⟨ok,hS,hT1,hT2,hdi,hdz,good,pts,lo,lI,lt,na,tt,tn,dis,dix⟩:=II0
  refine oa5 G ?_;(try clear G);intro G0 B X T D
  refine oa8 dis ?_;(try clear dis);intro dis1 dis2 dis3 dis4 dis5 dis6 dis7 z0;refine oa2 z0 ?_;(try clear z0);intro dis8 dis9
  have tsp:TupSpec x σ.home σ.pos u u':=⟨trivial⟩
  have nadl:=na dl (by k_extra "mem")
  have nabl:=na bl (by k_extra "mem")
  have naow:=na ow (by k_extra "mem")
  have nasp:=na sp (by k_extra "mem")
  have nahl:=na hl (by k_extra "mem")
  have nax0:=na (x 0) (by k_extra "mem")
  have nax1:=na (x 1) (by k_extra "mem")
  have nax2:=na (x 2) (by k_extra "mem")
  have nax3:=na (x 3) (by k_extra "mem")
  have naI:I ∉ A.all:=fun h=>(lo I (List.mem_append.mpr (.inr h))).2 rfl
  have nac1:L+1 ∉ A.all:=fun h=>cell_lt (k:=1) (by decide) (lo (L+1) (List.mem_append.mpr (.inr h))).1 rfl
  have nac2:L+1+1 ∉ A.all:=fun h=>cell_lt (k:=2) (by decide) (lo (L+1+1) (List.mem_append.mpr (.inr h))).1 rfl
  have nac3:L+1+1+1 ∉ A.all:=fun h=>cell_lt (k:=3) (by decide) (lo (L+1+1+1) (List.mem_append.mpr (.inr h))).1 rfl
  have nac4:L+1+1+1+1 ∉ A.all:=fun h=>cell_lt (k:=4) (by decide) (lo (L+1+1+1+1) (List.mem_append.mpr (.inr h))).1 rfl
  have nac5:L+1+1+1+1+1 ∉ A.all:=fun h=>cell_lt (k:=5) (by decide) (lo (L+1+1+1+1+1) (List.mem_append.mpr (.inr h))).1 rfl
  have nac6:L+1+1+1+1+1+1 ∉ A.all:=fun h=>cell_lt (k:=6) (by decide) (lo (L+1+1+1+1+1+1) (List.mem_append.mpr (.inr h))).1 rfl
  have nac7:L+1+1+1+1+1+1+1 ∉ A.all:=fun h=>cell_lt (k:=7) (by decide) (lo (L+1+1+1+1+1+1+1) (List.mem_append.mpr (.inr h))).1 rfl
  have nac8:L+1+1+1+1+1+1+1+1 ∉ A.all:=fun h=>cell_lt (k:=8) (by decide) (lo (L+1+1+1+1+1+1+1+1) (List.mem_append.mpr (.inr h))).1 rfl
  have fc1:∀ q∈T1++T2,@Ne Nat q.1 (L+1):=fun q hq=>fcell (k:=1) lt (tt q hq).2.1 (by decide)
  have fc2:∀ q∈T1++T2,@Ne Nat q.1 (L+1+1):=fun q hq=>fcell (k:=2) lt (tt q hq).2.1 (by decide)
  have fc3:∀ q∈T1++T2,@Ne Nat q.1 (L+1+1+1):=fun q hq=>fcell (k:=3) lt (tt q hq).2.1 (by decide)
  have fc4:∀ q∈T1++T2,@Ne Nat q.1 (L+1+1+1+1):=fun q hq=>fcell (k:=4) lt (tt q hq).2.1 (by decide)
  have fc5:∀ q∈T1++T2,@Ne Nat q.1 (L+1+1+1+1+1):=fun q hq=>fcell (k:=5) lt (tt q hq).2.1 (by decide)
  have fc6:∀ q∈T1++T2,@Ne Nat q.1 (L+1+1+1+1+1+1):=fun q hq=>fcell (k:=6) lt (tt q hq).2.1 (by decide)
  have fc7:∀ q∈T1++T2,@Ne Nat q.1 (L+1+1+1+1+1+1+1):=fun q hq=>fcell (k:=7) lt (tt q hq).2.1 (by decide)
  have fc8:∀ q∈T1++T2,@Ne Nat q.1 (L+1+1+1+1+1+1+1+1):=fun q hq=>fcell (k:=8) lt (tt q hq).2.1 (by decide)
  have fdl:∀ q∈T1++T2,@Ne Nat q.1 dl:=fun q hq=>(tt q hq).2.2.1
  have fsp:∀ q∈T1++T2,@Ne Nat q.1 sp:=fun q hq=>(tt q hq).2.2.2.1
  have fhl:∀ q∈T1++T2,@Ne Nat q.1 hl:=fun q hq=>(tt q hq).2.2.2.2.1
  have offT:Off A.all (T1++T2):=fun q hq=>(tt q hq).1
  have oodl:Off [dl] (T1++T2):=fun q hq h=>fdl q hq (List.mem_singleton.mp h)
  revert X;k_fill;intro X
  have hh9:σ.home at_=-1∨σ.home at_∈sides:=(good at_ ha).imp (·.1) (·.1)
  k_steps
  rename Fr _ _ _ _=>F9
  rename News _ _ _ _=>N9
  rename St _ _ _ _=>S9
  refine oe1 (lap_row (lim:=σ.lim+18) II S9 hdi hdz N9 F9 ‹_› rfl rfl rfl (Nat.le_add_right _ _) (good_set good (.inl ⟨rfl,rfl⟩)) pts rfl rfl rfl ⟨_,_,_,_,_,_,c1,c2,c3,c4,c5,c7⟩ c6 c8) ?_;intro news9 z0;refine oa2 z0 ?_;(try clear z0);intro N8 J8
  exact next _ _ _ _ _ ⟨G0,B,X,T,D⟩ F9 N8 J8
end Z3
theorem h_65:∀ j,j<65→∀ u,Pf j u:=histS 64 h_64 (gen 64 h_64 (by with_unfolding_all exact Z3.c_way_2))
theorem way_2 {body:List PySem.Stmt} {w:World} {dp un:Nat} {gd:Option (List Code)} {cs:Scope} {a:Addr} {A₀:Around} {base:Heap} {p:Program} {loose:List Str} {mean:ExcName→Option Value} {mg mb:Str→Option Value} {L I:Nat} {oI:Obj} {A:Ad} {s:Shared} {R:Result→Shared→Prop} {P:Flow→Shared→Prop} {dl bl ow sp:Addr} {h₀:Heap} {σ:Sg} {hl:Addr} {x:Int→Addr} {u u':Int→Tok} {S T1 T2:Led} {dv:List Value} {dn:List Int} {nd nb no ns nh:Nat} {s0 s1:Tok} {r:Str→Option Value} {o1 o2 o3 o4 o5 o6 o7 o8:Obj} {v3 v4 v5:Option Value} {at_ side:Int} {ta tb ts:Tok} : P_way_2 w dp un gd a A₀ base p loose mean mg mb L I oI A s R P dl bl ow sp h₀ σ hl x u u' S T1 T2 dv dn nd nb no ns nh s0 s1 r o1 o2 o3 o4 o5 o6 o7 o8 v3 v4 v5 at_ side ta tb ts body cs:=by with_unfolding_all exact h_65 64 (Nat.lt_succ_self 64) (sk0 |>.set 1 0 w |>.set 12 7 dp |>.set 12 8 un |>.set 42 0 gd |>.set 6 14 a |>.set 2 2 A₀ |>.set 5 2 base |>.set 0 1 p |>.set 35 1 loose |>.set 41 0 mean |>.set 7 4 mg |>.set 7 5 mb |>.set 12 19 L |>.set 12 20 I |>.set 16 7 oI |>.set 25 0 A |>.set 4 0 s |>.set 49 0 R |>.set 63 0 P |>.set 6 22 dl |>.set 6 18 bl |>.set 6 20 ow |>.set 6 19 sp |>.set 5 0 h₀ |>.set 28 0 σ |>.set 6 21 hl |>.set 60 0 x |>.set 61 0 u |>.set 61 1 u' |>.set 22 4 S |>.set 22 6 T1 |>.set 22 7 T2 |>.set 23 6 dv |>.set 24 2 dn |>.set 12 21 nd |>.set 12 13 nb |>.set 12 15 no |>.set 12 14 ns |>.set 12 16 nh |>.set 14 26 s0 |>.set 14 27 s1 |>.set 7 8 r |>.set 16 8 o1 |>.set 16 9 o2 |>.set 16 10 o3 |>.set 16 11 o4 |>.set 16 12 o5 |>.set 16 13 o6 |>.set 16 14 o7 |>.set 16 15 o8 |>.set 38 5 v3 |>.set 38 6 v4 |>.set 38 7 v5 |>.set 15 3 at_ |>.set 15 24 side |>.set 14 32 ta |>.set 14 14 tb |>.set 14 33 ts) body cs
theorem e96_1:True:=trivial
end
end Mine
namespace Mine
section
variable {w:World} {A:Ad} {σ:Sg} {dp un:Nat} {gd:Option (List Code)} {cn:Str} {cs:Scope} {a:Addr} {ccd:Value} {cl:List (Str × Addr)} {outer:List Env} {A₀:Around} {base h₀:Heap} {p:Program} {loose:List Str} {mean:ExcName→Option Value} {mg mb:Str→Option Value} {L:Addr} {m:Str→Option Value} {rest S:Led} {s:Shared} {Q:Unit→Shared→Prop} {E:Value→Shared→Prop}
end
section
namespace Z0
theorem c_st_setmark:∀ rest S Q,P_st_setmark w A σ dp un gd cn cs a ccd cl outer A₀ base h₀ p loose mean mg mb L m s E rest S Q:=by
  intro rest S Q ok hS B F X Tp N hr h
  have hz:(0:Int)∈sides:=by decide
  have ha:=hS.adr
  refine oe2 hS ?_;(try clear hS);intro EM G z0;refine oa3 z0 ?_;(try clear z0);intro z26 hM hB;obtain rfl:=z26
  have pJ:=perm_bm (EM:=EM) (G:=G) hz
  obtain ⟨T,vn,vm,ct,st,tp,tb,tz,u1,g1,g2,g3,g4,g5,g6,g7,tr,ticks,gs,ge,its,n,o,kvs,eG,hin⟩:=hB 0 hz
  have nd:=ok.nda
  rw [← ha] at nd
  have nd2:=(pJ.map (·.1)).nodup_iff.mp nd
  rw [eG] at pJ nd2
  obtain ⟨more,hmore⟩ : ∃ more,more=ids.flatMap EM++(blkO sides G 0++rest):=⟨_,rfl⟩
  have N2:News h₀ L s.heap ([(A.b 0,instObj 428 (A.bd 0)),(A.bd 0,bufD w T vn vm (A.t 0) (A.k 0) (.int (σ.point 0) tp) (.int 1 tb) (.int (σ.size 0+1) tz) (σ.mark A 0) (.int ticks u1) ct st (A.ls 0)),(A.t 0,instObj 177 (A.td 0)),
      (A.td 0,gapD w g1 g2 g3 g4 (.int 8 g5) (A.c 0) (.int gs g6) (.int ge g7)),(A.c 0,listOf its n),(A.k 0,instObj 322 (A.kd 0)),(A.kd 0,rowsD w tr (A.r 0)),(A.r 0,o),(A.ls 0,listOf #[] 0)]++more):=News.sub N fun q hq=>by
    rw [hmore] at hq
    rcases List.mem_append.mp hq with h | h
    · exact List.mem_append.mpr (.inl (pJ.mem_iff.mpr (List.mem_append.mpr (.inl (List.mem_append.mpr (.inl h))))))
    · rcases List.mem_append.mp h with h | h
      · exact List.mem_append.mpr (.inl (pJ.mem_iff.mpr (List.mem_append.mpr (.inl (List.mem_append.mpr (.inr h))))))
      · rcases List.mem_append.mp h with h | h
        · exact List.mem_append.mpr (.inl (pJ.mem_iff.mpr (List.mem_append.mpr (.inr h))))
        · exact List.mem_append.mpr (.inr h)
  have nbd:∀ q∈more,q.1≠A.bd 0:=fun q hq e=>by
    rw [hmore] at hq
    have hb:A.bd 0∈A.all:=List.mem_append.mpr (.inr (List.mem_flatMap.mpr ⟨0,hz,by simp [Ad.bAd]⟩))
    rw [← List.append_assoc] at hq
    rcases List.mem_append.mp hq with h | h
    · have h2:q∈ids.flatMap EM++blkO sides G 0:=h
      have o9:=off_of_perm (wr:=[A.bd 0]) nd (by rw [← List.append_assoc];exact pJ.trans (by rw [List.append_assoc])) (fun x hx=>by rw [List.mem_singleton.mp hx];simp)
      exact o9 q h2 (by rw [e];exact List.mem_singleton.mpr rfl)
    · exact hr q h (by rw [e];exact hb)
  refine and8 (ok.blk 0 hz) ?_;intro c1 c2 c3 c4 c5 c6 c7 c8
  simp only [List.cons_append,List.nil_append] at N2
  clear N
  revert X;k_fill;intro X
  k_steps
  rename Fr _ _ _ _=>F9
  rename News _ _ _ _=>N9
  refine h (ids.flatMap EM++sides.flatMap (setB G 0 [(A.b 0,instObj 428 (A.bd 0)),(A.bd 0,bufD w T vn vm (A.t 0) (A.k 0) (.int (σ.point 0) tp) (.int 1 tb) (.int (σ.size 0+1) tz) (.ref (A.ma 3)) (.int ticks u1) ct st (A.ls 0)),(A.t 0,instObj 177 (A.td 0)),(A.td 0,gapD w g1 g2 g3 g4 (.int 8 g5) (A.c 0) (.int gs g6) (.int ge g7)),(A.c 0,listOf its n),(A.k 0,instObj 322 (A.kd 0)),(A.kd 0,rowsD w tr (A.r 0)),(A.r 0,o),(A.ls 0,listOf #[] 0)])) _ _ ⟨EM,_,rfl,hM,fun j hj=>?_⟩ F9 (News.sub N9 fun q hq=>?_)
  · by_cases e:j=0
    · subst e
      rw [setB_same]
      have em:Sg.mark A { σ with marked:=true } 0=.ref (A.ma 3):=by rw [Sg.mark,if_pos rfl,if_pos rfl]
      rw [em]
      exact ⟨T,vn,vm,ct,st,tp,tb,tz,u1,g1,g2,g3,g4,g5,g6,g7,tr,ticks,gs,ge,its,n,o,kvs,rfl,hin⟩
    · rw [setB_other e]
      have em:Sg.mark A { σ with marked:=true } j=σ.mark A j:=by rw [Sg.mark,Sg.mark,if_neg e,if_neg e]
      rw [em]
      exact hB j hj
  · show q∈[(A.b 0,instObj 428 (A.bd 0)),(A.bd 0,bufD w T vn vm (A.t 0) (A.k 0) (.int (σ.point 0) tp) (.int 1 tb) (.int (σ.size 0+1) tz) (.ref (A.ma 3)) (.int ticks u1) ct st (A.ls 0)),(A.t 0,instObj 177 (A.td 0)),(A.td 0,gapD w g1 g2 g3 g4 (.int 8 g5) (A.c 0) (.int gs g6) (.int ge g7)),(A.c 0,listOf its n),(A.k 0,instObj 322 (A.kd 0)),(A.kd 0,rowsD w tr (A.r 0)),(A.r 0,o),(A.ls 0,listOf #[] 0)]++more
    rw [hmore]
    rcases List.mem_append.mp hq with h1 | h1
    · rcases List.mem_append.mp (repackBM (G:=G) hz q h1) with h2 | h2
      · rcases List.mem_append.mp h2 with h3 | h3
        · exact List.mem_append.mpr (.inl h3)
        · exact List.mem_append.mpr (.inr (List.mem_append.mpr (.inl h3)))
      · exact List.mem_append.mpr (.inr (List.mem_append.mpr (.inr (List.mem_append.mpr (.inl h2)))))
    · exact List.mem_append.mpr (.inr (List.mem_append.mpr (.inr (List.mem_append.mpr (.inr h1)))))
end Z0
theorem h_66:∀ j,j<66→∀ u,Pf j u:=histS 65 h_65 (gen 65 h_65 (by with_unfolding_all exact Z0.c_st_setmark))
theorem st_setmark {w:World} {A:Ad} {σ:Sg} {dp un:Nat} {gd:Option (List Code)} {cn:Str} {cs:Scope} {a:Addr} {ccd:Value} {cl:List (Prod Str Addr)} {outer:List Env} {A₀:Around} {base h₀:Heap} {p:Program} {loose:List Str} {mean:ExcName→Option Value} {mg mb:Str→Option Value} {L:Addr} {m:Str→Option Value} {rest S:Led} {s:Shared} {Q:Unit→Shared→Prop} {E:Value→Shared→Prop} : P_st_setmark w A σ dp un gd cn cs a ccd cl outer A₀ base h₀ p loose mean mg mb L m s E rest S Q:=by with_unfolding_all exact h_66 65 (Nat.lt_succ_self 65) (sk0 |>.set 1 0 w |>.set 25 0 A |>.set 28 0 σ |>.set 12 7 dp |>.set 12 8 un |>.set 42 0 gd |>.set 19 5 cn |>.set 43 0 cs |>.set 6 14 a |>.set 10 22 ccd |>.set 44 0 cl |>.set 45 0 outer |>.set 2 2 A₀ |>.set 5 2 base |>.set 5 0 h₀ |>.set 0 1 p |>.set 35 1 loose |>.set 41 0 mean |>.set 7 4 mg |>.set 7 5 mb |>.set 6 0 L |>.set 7 0 m |>.set 4 0 s |>.set 3 0 E) rest S Q
end
section
variable {w:World} {A:Ad} {σ:Sg} {dp un:Nat} {gd:Option (List Code)} {cn:Str} {cs:Scope} {a:Addr} {ccd:Value} {cl:List (Str × Addr)} {outer:List Env} {A₀:Around} {base h₀:Heap} {p:Program} {loose:List Str} {mean:ExcName→Option Value} {mg mb:Str→Option Value} {L:Addr} {m:Str→Option Value} {rest S:Led} {s:Shared} {Q:Unit→Shared→Prop} {E:Value→Shared→Prop}
theorem st_setmarkA {l e r:Led} (c:CutA S l e r) (ok:A.Ok) (hS:St w A σ S) (B:Below A₀ base outer h₀) (F:Fr h₀ L s.heap m) (X:(Mine.hd.heap_1 w.params).In h₀) (Tp:Top p loose mean mg mb h₀) (N:News h₀ L s.heap l) (hr:Off A.all (e++r))
    (h:∀ S' h' tk',St w A { σ with marked:=true } S'→Fr h₀ L h' m→News h₀ L h' (e++(S'++r))→Q () { s with heap:=h',toks:=tk' }) :
    wpAny (model PySem.Challenge.rw_ok0063_01.prog w) (ktrTop dp un gd cn cs L a ccd cl outer) (setAttr (.ref (A.b 0)) (ofString "mark") (.ref (A.ma 3))) Q E s:=by
  have eq:=c.eq
  subst eq
  refine st_setmark (rest:=e++r) ok hS B F X Tp (News.sub N fun q hq=>?_) hr fun S' h' tk' hS' F' N'=>h S' h' tk' hS' F' (News.sub N' fun q hq=>?_)
  · simp only [List.mem_append] at hq ⊢
    rcases hq with h | h | h
    · exact .inr (.inl h)
    · exact .inl h
    · exact .inr (.inr h)
  · simp only [List.mem_append] at hq ⊢
    rcases hq with h | h | h
    · exact .inr (.inl h)
    · exact .inl h
    · exact .inr (.inr h)
end
end Mine
namespace Mine
open PyProof.V PyProof.Rows.LCg
namespace Z3
theorem c_lap_rowD:P_lap_rowD w L I oI A σ (k28 1) dl bl ow sp hl x u u' S S' T1 T2 dv dv' dn dn' nd nb no ns nh s0 s1 o1 o2 o3 o4 o5 o6 o7 o8 lim h₀ (k5 3) m' i (k15 22) (k15 23) T b b':=by
  intro II hS di dz N F l1 eh ep et hlim good pts h1 h2 h3 cs c6 c8
  refine and19 (l1) ?_;intro ldl lI_ l8 l7 l6 l5 l4 l3 l2 l1_ lbl low lsp lhl lx0 lx1 lx2 lx3 lS
  refine lap_row (u:=u) (u':=u') (b:=b) (b':=b') (nd:=nd) (nb:=nb) (no:=no) (ns:=ns) (nh:=nh) (s0:=s0) (s1:=s1) II hS di dz (News.sub N fun q hq=>?_) F ⟨lI_,l8,l7,l6,l5,l4,l3,l2,l1_,ldl,lbl,low,lsp,lhl,lx0,lx1,lx2,lx3,lS⟩ eh ep et hlim good pts h1 h2 h3 cs c6 c8
  revert q;k_extra "sb"
end Z3
theorem h_67:∀ j,j<67→∀ u,Pf j u:=histS 66 h_66 (gen 66 h_66 (by with_unfolding_all exact Z3.c_lap_rowD))
theorem lap_rowD {w:World} {L I:Nat} {oI:Obj} {A:Ad} {σ σ':Sg} {dl bl ow sp hl:Addr} {x:Int→Addr} {u u':Int→Tok} {S S' T1 T2:Led} {dv dv':List Value} {dn dn':List Int} {nd nb no ns nh:Nat} {s0 s1:Tok} {o1 o2 o3 o4 o5 o6 o7 o8:Obj} {lim:Nat} {h₀ h':Heap} {m':Str→Option Value} {i hn pn:Int} {T:Addr} {b b':Tok} : P_lap_rowD w L I oI A σ σ' dl bl ow sp hl x u u' S S' T1 T2 dv dv' dn dn' nd nb no ns nh s0 s1 o1 o2 o3 o4 o5 o6 o7 o8 lim h₀ h' m' i hn pn T b b':=by with_unfolding_all exact h_67 66 (Nat.lt_succ_self 66) (sk0 |>.set 1 0 w |>.set 12 19 L |>.set 12 20 I |>.set 16 7 oI |>.set 25 0 A |>.set 28 0 σ |>.set 28 1 σ' |>.set 6 22 dl |>.set 6 18 bl |>.set 6 20 ow |>.set 6 19 sp |>.set 6 21 hl |>.set 60 0 x |>.set 61 0 u |>.set 61 1 u' |>.set 22 4 S |>.set 22 8 S' |>.set 22 6 T1 |>.set 22 7 T2 |>.set 23 6 dv |>.set 23 7 dv' |>.set 24 2 dn |>.set 24 3 dn' |>.set 12 21 nd |>.set 12 13 nb |>.set 12 15 no |>.set 12 14 ns |>.set 12 16 nh |>.set 14 26 s0 |>.set 14 27 s1 |>.set 16 8 o1 |>.set 16 9 o2 |>.set 16 10 o3 |>.set 16 11 o4 |>.set 16 12 o5 |>.set 16 13 o6 |>.set 16 14 o7 |>.set 16 15 o8 |>.set 12 3 lim |>.set 5 0 h₀ |>.set 5 3 h' |>.set 7 6 m' |>.set 15 7 i |>.set 15 22 hn |>.set 15 23 pn |>.set 6 23 T |>.set 14 30 b |>.set 14 31 b')
namespace Z3
theorem c_LI_copy:P_LI_copy w L I A σ (k28 1) dl bl ow sp hl x S S' T1 T2 dv dv' dn dn' i j:=by
  intro II hj hS di dz good pts
  obtain ⟨ok,_,t1,t2,_,_,_,_,lo,lI,lt,na,tt,tn,dis,dix⟩:=II
  have m0:∀ k∈ids,x k∈[dl,bl,ow,sp,hl,x 0,x 1,x 2,x 3]:=fun k hk=>by
    have:=ids4 hk
    rcases this with rfl | rfl | rfl | rfl <;> simp
  have hx:∀ k∈ids,∃ k'∈ids,updA x i (x j) k=x k':=fun k hk=>by
    unfold updA
    split
    · exact ⟨j,hj,rfl⟩
    · exact ⟨k,hk,rfl⟩
  have mem:∀ a:Addr,a∈[dl,bl,ow,sp,hl,updA x i (x j) 0,updA x i (x j) 1,updA x i (x j) 2,updA x i (x j) 3]→a∈[dl,bl,ow,sp,hl,x 0,x 1,x 2,x 3]:=fun a h=>by
    have go:∀ k∈ids,a=updA x i (x j) k→a∈[dl,bl,ow,sp,hl,x 0,x 1,x 2,x 3]:=fun k hk e=>by
      refine oe1 (hx k hk) ?_;intro k' z0;refine oa2 z0 ?_;(try clear z0);intro hk' z
      rw [e,z];exact m0 k' hk'
    simp only [List.mem_cons,List.not_mem_nil,or_false] at h
    rcases h with h | h | h | h | h | h | h | h | h
    · rw [h];k_extra "mem"
    · rw [h];k_extra "mem"
    · rw [h];k_extra "mem"
    · rw [h];k_extra "mem"
    · rw [h];k_extra "mem"
    · exact go 0 (by decide) h
    · exact go 1 (by decide) h
    · exact go 2 (by decide) h
    · exact go 3 (by decide) h
  refine ⟨ok,hS,t1,t2,di,dz,good,pts,fun a h=>?_,lI,lt,fun a h=>na a (mem a h),tt,tn,dis,fun k hk=>?_⟩
  · rcases List.mem_append.mp h with h | h
    · exact lo a (List.mem_append.mpr (.inl (mem a h)))
    · exact lo a (List.mem_append.mpr (.inr h))
  · refine oe1 (hx k hk) ?_;intro k' z0;refine oa2 z0 ?_;(try clear z0);intro hk' z
    rw [z];exact dix k' hk'
end Z3
theorem h_68:∀ j,j<68→∀ u,Pf j u:=histS 67 h_67 (gen 67 h_67 (by with_unfolding_all exact Z3.c_LI_copy))
theorem LI.copy {w:World} {L I:Nat} {A:Ad} {σ σ':Sg} {dl bl ow sp hl:Addr} {x:Int→Addr} {S S' T1 T2:Led} {dv dv':List Value} {dn dn':List Int} {i j:Int} : P_LI_copy w L I A σ σ' dl bl ow sp hl x S S' T1 T2 dv dv' dn dn' i j:=by with_unfolding_all exact h_68 67 (Nat.lt_succ_self 67) (sk0 |>.set 1 0 w |>.set 12 19 L |>.set 12 20 I |>.set 25 0 A |>.set 28 0 σ |>.set 28 1 σ' |>.set 6 22 dl |>.set 6 18 bl |>.set 6 20 ow |>.set 6 19 sp |>.set 6 21 hl |>.set 60 0 x |>.set 22 4 S |>.set 22 8 S' |>.set 22 6 T1 |>.set 22 7 T2 |>.set 23 6 dv |>.set 23 7 dv' |>.set 24 2 dn |>.set 24 3 dn' |>.set 15 7 i |>.set 15 10 j)
theorem rows_copy {x:Int→Addr} {hm p:Int→Int} {u u':Int→Tok} {l:Led} {i j:Int} (hj:j∈ids) (hx:∀ k∈ids,(x k,tupO (hm k) (p k) (u k) (u' k))∈l) : ∀ k∈ids,(updA x i (x j) k,tupO (upd hm i (hm j) k) (upd p i (p j) k) (updT u i (u j) k) (updT u' i (u' j) k))∈l:=fun k hk=>by
  unfold updA upd updT
  by_cases e:k=i
  · simp only [e,if_true];exact hx j hj
  · simp only [e,if_false];exact hx k hk
namespace Z3
theorem c_lap_copy:P_lap_copy w L I oI A σ (k28 1) dl bl ow sp hl x u u' S S' T1 T2 dv dv' dn dn' nd nb no ns nh s0 s1 o1 o2 o3 o4 o5 o6 o7 o8 lim h₀ (k5 3) m' i j:=by
  intro II hj hS di dz N x9 eh ep et hlim good pts h1 h2 h3 cs c6 c8
  refine ⟨_,News.sub N ?_,(k28 1),hl,updA x i (x j),updT u i (u j),updT u' i (u' j),S',T1,T2,dv',dn',nd,nb,no,ns,nh,s0,s1,_,o1,o2,o3,o4,o5,o6,o7,o8,II.copy hj hS di dz good pts,hlim,ml_of h1 h2 h3,rfl,cs,c6,c8⟩
  rw [et,eh,ep]
  refine news_rows (pre:=[(I,oI),(L+1+1+1+1+1+1+1+1,o8),(L+1+1+1+1+1+1+1,o7),(L+1+1+1+1+1+1,o6),(L+1+1+1+1+1,o5),(L+1+1+1+1,o4),(L+1+1+1,o3),(L+1+1,o2),(L+1,o1),(dl,listOf (List.toArray dv') nd),(bl,listOf #[.ref (A.b 0),.ref (A.b 1)] nb),(ow,listOf #[.ref (A.ma 0),.ref (A.ma 1),.ref (A.ma 2),.ref (A.ma 3)] no),(sp,listOf #[.int (σ.point 0) s0,.int (σ.point 1) s1] ns),(hl,listOf #[.ref (updA x i (x j) 0),.ref (updA x i (x j) 1),.ref (updA x i (x j) 2),.ref (updA x i (x j) 3)] nh)]) (rows_copy hj fun k hk=>all_rows ?_ ?_ ?_ ?_ k hk) (fun q hq=>?_) fun q hq=>?_
  · k_extra "mem"
  · k_extra "mem"
  · k_extra "mem"
  · k_extra "mem"
  · revert q;k_extra "sb"
  · revert q;k_extra "sb"
end Z3
theorem h_69:∀ j,j<69→∀ u,Pf j u:=histS 68 h_68 (gen 68 h_68 (by with_unfolding_all exact Z3.c_lap_copy))
theorem lap_copy {w:World} {L I:Nat} {oI:Obj} {A:Ad} {σ σ':Sg} {dl bl ow sp hl:Addr} {x:Int→Addr} {u u':Int→Tok} {S S' T1 T2:Led} {dv dv':List Value} {dn dn':List Int} {nd nb no ns nh:Nat} {s0 s1:Tok} {o1 o2 o3 o4 o5 o6 o7 o8:Obj} {lim:Nat} {h₀ h':Heap} {m':Str→Option Value} {i j:Int} : P_lap_copy w L I oI A σ σ' dl bl ow sp hl x u u' S S' T1 T2 dv dv' dn dn' nd nb no ns nh s0 s1 o1 o2 o3 o4 o5 o6 o7 o8 lim h₀ h' m' i j:=by with_unfolding_all exact h_69 68 (Nat.lt_succ_self 68) (sk0 |>.set 1 0 w |>.set 12 19 L |>.set 12 20 I |>.set 16 7 oI |>.set 25 0 A |>.set 28 0 σ |>.set 28 1 σ' |>.set 6 22 dl |>.set 6 18 bl |>.set 6 20 ow |>.set 6 19 sp |>.set 6 21 hl |>.set 60 0 x |>.set 61 0 u |>.set 61 1 u' |>.set 22 4 S |>.set 22 8 S' |>.set 22 6 T1 |>.set 22 7 T2 |>.set 23 6 dv |>.set 23 7 dv' |>.set 24 2 dn |>.set 24 3 dn' |>.set 12 21 nd |>.set 12 13 nb |>.set 12 15 no |>.set 12 14 ns |>.set 12 16 nh |>.set 14 26 s0 |>.set 14 27 s1 |>.set 16 8 o1 |>.set 16 9 o2 |>.set 16 10 o3 |>.set 16 11 o4 |>.set 16 12 o5 |>.set 16 13 o6 |>.set 16 14 o7 |>.set 16 15 o8 |>.set 12 3 lim |>.set 5 0 h₀ |>.set 5 3 h' |>.set 7 6 m' |>.set 15 7 i |>.set 15 10 j)
theorem good_home {σ:Sg} {k:Int} (good:∀ i∈ids,(σ.home i=-1∧σ.pos i=0)∨(σ.home i∈sides∧1≤σ.pos i∧σ.pos i≤σ.size (σ.home i)+1)) (hk:k∈ids) : σ.home k=-1∨σ.home k∈sides:=(good k hk).imp (·.1) (·.1)
theorem good_none {σ:Sg} {k:Int} (good:∀ i∈ids,(σ.home i=-1∧σ.pos i=0)∨(σ.home i∈sides∧1≤σ.pos i∧σ.pos i≤σ.size (σ.home i)+1)) (hk:k∈ids) : σ.home k=-1→σ.pos k=0:=fun e=>by
  rcases good k hk with h | h
  · exact h.2
  · have:=sides_iff.mp h.1
    omega
theorem good_in {σ:Sg} {k:Int} (good:∀ i∈ids,(σ.home i=-1∧σ.pos i=0)∨(σ.home i∈sides∧1≤σ.pos i∧σ.pos i≤σ.size (σ.home i)+1)) (hk:k∈ids) : σ.home k∈sides→1≤σ.pos k∧σ.pos k≤σ.size (σ.home k)+1:=fun e=>by
  rcases good k hk with h | h
  · have:=sides_iff.mp e
    omega
  · exact h.2
theorem fresh_st {w:World} {L I:Nat} {A:Ad} {σ σ':Sg} {dl bl ow sp hl T:Addr} {x:Int→Addr} {S S' r:Led} (l1 : @LT.lt Nat _ dl T∧@LT.lt Nat _ I T∧@LT.lt Nat _ (L+1+1+1+1+1+1+1+1) T∧@LT.lt Nat _ (L+1+1+1+1+1+1+1) T∧@LT.lt Nat _ (L+1+1+1+1+1+1) T∧@LT.lt Nat _ (L+1+1+1+1+1) T∧@LT.lt Nat _ (L+1+1+1+1) T∧@LT.lt Nat _ (L+1+1+1) T∧@LT.lt Nat _ (L+1+1) T∧@LT.lt Nat _ (L+1) T∧@LT.lt Nat _ bl T∧@LT.lt Nat _ ow T∧@LT.lt Nat _ sp T∧@LT.lt Nat _ hl T∧@LT.lt Nat _ (x 0) T∧@LT.lt Nat _ (x 1) T∧@LT.lt Nat _ (x 2) T∧@LT.lt Nat _ (x 3) T∧AllLt T (S++r)) (hS:St w A σ S) (hS':St w A σ' S') : @LT.lt Nat _ dl T∧@LT.lt Nat _ I T∧@LT.lt Nat _ (L+1+1+1+1+1+1+1+1) T∧@LT.lt Nat _ (L+1+1+1+1+1+1+1) T∧@LT.lt Nat _ (L+1+1+1+1+1+1) T∧@LT.lt Nat _ (L+1+1+1+1+1) T∧@LT.lt Nat _ (L+1+1+1+1) T∧@LT.lt Nat _ (L+1+1+1) T∧@LT.lt Nat _ (L+1+1) T∧@LT.lt Nat _ (L+1) T∧@LT.lt Nat _ bl T∧@LT.lt Nat _ ow T∧@LT.lt Nat _ sp T∧@LT.lt Nat _ hl T∧@LT.lt Nat _ (x 0) T∧@LT.lt Nat _ (x 1) T∧@LT.lt Nat _ (x 2) T∧@LT.lt Nat _ (x 3) T∧AllLt T (S'++r):=by
  refine and19 (l1) ?_;intro ldl lI_ l8 l7 l6 l5 l4 l3 l2 l1_ lbl low lsp lhl lx0 lx1 lx2 lx3 lS
  refine ⟨ldl,lI_,l8,l7,l6,l5,l4,l3,l2,l1_,lbl,low,lsp,lhl,lx0,lx1,lx2,lx3,allLt_of fun p hp=>?_⟩
  rcases List.mem_append.mp hp with h | h
  · have:p.1∈S.map (·.1):=by
      rw [hS.adr,← hS'.adr]
      exact List.mem_map.mpr ⟨p,h,rfl⟩
    refine oe1 (List.mem_map.mp this) ?_;intro q z0;refine oa2 z0 ?_;(try clear z0);intro hq e
    have:=allLt_mem lS q (List.mem_append.mpr (.inl hq))
    rw [← e]
    exact this
  · exact allLt_mem lS p (List.mem_append.mpr (.inr h))
theorem fresh_na {w:World} {L I:Nat} {A:Ad} {σ:Sg} {dl bl ow sp hl T:Addr} {x:Int→Addr} {S r:Led} (l1 : @LT.lt Nat _ dl T∧@LT.lt Nat _ I T∧@LT.lt Nat _ (L+1+1+1+1+1+1+1+1) T∧@LT.lt Nat _ (L+1+1+1+1+1+1+1) T∧@LT.lt Nat _ (L+1+1+1+1+1+1) T∧@LT.lt Nat _ (L+1+1+1+1+1) T∧@LT.lt Nat _ (L+1+1+1+1) T∧@LT.lt Nat _ (L+1+1+1) T∧@LT.lt Nat _ (L+1+1) T∧@LT.lt Nat _ (L+1) T∧@LT.lt Nat _ bl T∧@LT.lt Nat _ ow T∧@LT.lt Nat _ sp T∧@LT.lt Nat _ hl T∧@LT.lt Nat _ (x 0) T∧@LT.lt Nat _ (x 1) T∧@LT.lt Nat _ (x 2) T∧@LT.lt Nat _ (x 3) T∧AllLt T (S++r)) (hS:St w A σ S) : T ∉ A.all:=by
  refine and19 (l1) ?_;intro ldl lI_ l8 l7 l6 l5 l4 l3 l2 l1_ lbl low lsp lhl lx0 lx1 lx2 lx3 lS
  intro hm
  rw [← hS.adr] at hm
  refine oe1 (List.mem_map.mp hm) ?_;intro q z0;refine oa2 z0 ?_;(try clear z0);intro hq e
  have:=allLt_mem lS q (List.mem_append.mpr (.inl hq))
  rw [e] at this
  exact Nat.lt_irrefl _ this
theorem ids_of {r:Int} (h0:0≤r) (h1:r<4) : r∈ids:=ids_iff.mpr ⟨h0,h1⟩
theorem sides_of {r:Int} (h0:0≤r) (h1:r<2) : r∈sides:=sides_iff.mpr ⟨h0,h1⟩
end Mine
namespace Mine
section
theorem kw97_1:True:=by
  k_with "call ref" => ((fail_if_success have:=@e97_1);k_here;(with_reducible show wpAny _ _ (call (Value.ref 48) [_,Value.ref _,Value.int _ _]) _ _ _);k_dflt (refine' Spec.useC (ledx:=[]) (st_set ?y0 ?y1 ?y2 ?y3 ?y4 _ ?hS) ?B ?F ?X ?N ?C ?P ?hr ?T ?hk ?hd ?hu ?_;k_extra "us2";(case y0=>assumption);(case y1=>assumption);(case y2=>assumption);(case y3=>assumption);(case y4=>assumption);(case hr=>k_extra "h1");k_whole);intro v9 led9 h' tk' hP9;refine oe1 hP9 ?_;(try clear hP9);intro σ9 z0;refine oa2 z0 ?_;(try clear z0);intro z27 hS9;refine oa2 z27 ?_;(try clear z27);intro hv9 hσ9;subst hv9;intro F' N';rw [hσ9] at hS9;clear hσ9;(replace N':=reorder (a:=[]) N');k_extra "nn")
  k_with "setAttr ref" => ((fail_if_success have:=@e97_1);k_here;(with_reducible show wpAny _ _ (setAttr (Value.ref (Ad.b _ _)) (ofString "mark") _) _ _ _);refine Halt.intro ?_)
  trivial
namespace Z3
theorem c_way_0:∀ body cs,P_way_0 w dp un gd a A₀ base p loose mean mg mb L I oI A s R P dl bl ow sp h₀ σ hl x u u' S T1 T2 dv dn nd nb no ns nh s0 s1 r o1 o2 o3 o4 o5 o6 o7 o8 v3 v4 v5 at_ side (k14 32) (k14 14) ts body cs:=by
  intro body cs hb XB TB C1 C2 hc hd hu G II hlim ha hs F N c1 c2 c3 c4 c5 c6 c7 c8 next
  cases hb
  cases hc
  dsimp only
  have II0:=II
  refine and17 (II.ne_hl) ?_;intro e_hl_0 e_hl_1 e_hl_2 e_hl_3 e_hl_4 e_hl_5 e_hl_6 e_hl_7 e_hl_8 e_hl_9 e_hl_10 e_hl_11 e_hl_12 e_hl_13 e_hl_14 e_hl_15 e_hl_16
  refine and17 (II.ne_dl) ?_;intro e_dl_0 e_dl_1 e_dl_2 e_dl_3 e_dl_4 e_dl_5 e_dl_6 e_dl_7 e_dl_8 e_dl_9 e_dl_10 e_dl_11 e_dl_12 e_dl_13 e_dl_14 e_dl_15 e_dl_16
  obtain ⟨ok,hS,hT1,hT2,hdi,hdz,good,pts,lo,lI,lt,na,tt,tn,dis,dix⟩:=II0
  refine oa5 G ?_;(try clear G);intro G0 B X T D
  refine oa8 dis ?_;(try clear dis);intro dis1 dis2 dis3 dis4 dis5 dis6 dis7 z0;refine oa2 z0 ?_;(try clear z0);intro dis8 dis9
  have tsp:TupSpec x σ.home σ.pos u u':=⟨trivial⟩
  have nadl:=na dl (by k_extra "mem")
  have nabl:=na bl (by k_extra "mem")
  have naow:=na ow (by k_extra "mem")
  have nasp:=na sp (by k_extra "mem")
  have nahl:=na hl (by k_extra "mem")
  have nax0:=na (x 0) (by k_extra "mem")
  have nax1:=na (x 1) (by k_extra "mem")
  have nax2:=na (x 2) (by k_extra "mem")
  have nax3:=na (x 3) (by k_extra "mem")
  have naI:I ∉ A.all:=fun h=>(lo I (List.mem_append.mpr (.inr h))).2 rfl
  have nac1:L+1 ∉ A.all:=fun h=>cell_lt (k:=1) (by decide) (lo (L+1) (List.mem_append.mpr (.inr h))).1 rfl
  have nac2:L+1+1 ∉ A.all:=fun h=>cell_lt (k:=2) (by decide) (lo (L+1+1) (List.mem_append.mpr (.inr h))).1 rfl
  have nac3:L+1+1+1 ∉ A.all:=fun h=>cell_lt (k:=3) (by decide) (lo (L+1+1+1) (List.mem_append.mpr (.inr h))).1 rfl
  have nac4:L+1+1+1+1 ∉ A.all:=fun h=>cell_lt (k:=4) (by decide) (lo (L+1+1+1+1) (List.mem_append.mpr (.inr h))).1 rfl
  have nac5:L+1+1+1+1+1 ∉ A.all:=fun h=>cell_lt (k:=5) (by decide) (lo (L+1+1+1+1+1) (List.mem_append.mpr (.inr h))).1 rfl
  have nac6:L+1+1+1+1+1+1 ∉ A.all:=fun h=>cell_lt (k:=6) (by decide) (lo (L+1+1+1+1+1+1) (List.mem_append.mpr (.inr h))).1 rfl
  have nac7:L+1+1+1+1+1+1+1 ∉ A.all:=fun h=>cell_lt (k:=7) (by decide) (lo (L+1+1+1+1+1+1+1) (List.mem_append.mpr (.inr h))).1 rfl
  have nac8:L+1+1+1+1+1+1+1+1 ∉ A.all:=fun h=>cell_lt (k:=8) (by decide) (lo (L+1+1+1+1+1+1+1+1) (List.mem_append.mpr (.inr h))).1 rfl
  have fc1:∀ q∈T1++T2,@Ne Nat q.1 (L+1):=fun q hq=>fcell (k:=1) lt (tt q hq).2.1 (by decide)
  have fc2:∀ q∈T1++T2,@Ne Nat q.1 (L+1+1):=fun q hq=>fcell (k:=2) lt (tt q hq).2.1 (by decide)
  have fc3:∀ q∈T1++T2,@Ne Nat q.1 (L+1+1+1):=fun q hq=>fcell (k:=3) lt (tt q hq).2.1 (by decide)
  have fc4:∀ q∈T1++T2,@Ne Nat q.1 (L+1+1+1+1):=fun q hq=>fcell (k:=4) lt (tt q hq).2.1 (by decide)
  have fc5:∀ q∈T1++T2,@Ne Nat q.1 (L+1+1+1+1+1):=fun q hq=>fcell (k:=5) lt (tt q hq).2.1 (by decide)
  have fc6:∀ q∈T1++T2,@Ne Nat q.1 (L+1+1+1+1+1+1):=fun q hq=>fcell (k:=6) lt (tt q hq).2.1 (by decide)
  have fc7:∀ q∈T1++T2,@Ne Nat q.1 (L+1+1+1+1+1+1+1):=fun q hq=>fcell (k:=7) lt (tt q hq).2.1 (by decide)
  have fc8:∀ q∈T1++T2,@Ne Nat q.1 (L+1+1+1+1+1+1+1+1):=fun q hq=>fcell (k:=8) lt (tt q hq).2.1 (by decide)
  have fdl:∀ q∈T1++T2,@Ne Nat q.1 dl:=fun q hq=>(tt q hq).2.2.1
  have fsp:∀ q∈T1++T2,@Ne Nat q.1 sp:=fun q hq=>(tt q hq).2.2.2.1
  have fhl:∀ q∈T1++T2,@Ne Nat q.1 hl:=fun q hq=>(tt q hq).2.2.2.2.1
  have offT:Off A.all (T1++T2):=fun q hq=>(tt q hq).1
  have oodl:Off [dl] (T1++T2):=fun q hq h=>fdl q hq (List.mem_singleton.mp h)
  revert X;k_fill;intro X
  have hh9:σ.home at_=-1∨σ.home at_∈sides:=(good at_ ha).imp (·.1) (·.1)
  have hl9:σ.lim≤800:=by omega
  have hz9:=(pts side hs).1
  k_steps
  · rename St _ _ _ _=>S9
    rename Fr _ _ _ _=>F9
    rename News _ _ _ _=>N9
    unfold Halt
    refine' st_setmarkA ?c ok S9 B F9 X T N9 ?hr ?_
    (case c=>(repeat' first | exact CutA.here | refine' CutA.step ?_))
    (case hr=>(repeat' first | exact Off.nil | assumption | (refine' Off.append ?_ ?_) | refine' Off.cons ?_ ?_ | exact ni_nil | exact fresh_na ‹_› ‹_›))
    intro S' h' tk' hS' F' N'
    simp only [List.cons_append,List.nil_append] at N'
    clear F9 N9
    k_steps
    rename Fr _ _ _ _=>F9
    rename News _ _ _ _=>N9
    refine oe1 (lap_rowD (lim:=σ.lim+18) II hS' ‹_› ‹_› N9 F9 (fresh_st ‹_› S9 hS') rfl rfl rfl (Nat.le_add_right _ _) (good_set good (.inr ⟨hs,by omega,by omega⟩)) pts rfl rfl rfl ⟨_,_,_,_,_,_,c1,c2,c3,c4,c5,c7⟩ c6 c8) ?_;intro news9 z0;refine oa2 z0 ?_;(try clear z0);intro N8 J8
    exact next _ _ _ _ _ ⟨G0,B,X,T,D⟩ F9 N8 J8
  · rename Fr _ _ _ _=>F9
    rename News _ _ _ _=>N9
    rename St _ _ _ _=>S9
    refine oe1 (lap_rowD (lim:=σ.lim+18) II S9 ‹_› ‹_› N9 F9 ‹_› rfl rfl rfl (Nat.le_add_right _ _) (good_set good (.inr ⟨hs,by omega,by omega⟩)) pts rfl rfl rfl ⟨_,_,_,_,_,_,c1,c2,c3,c4,c5,c7⟩ c6 c8) ?_;intro news9 z0;refine oa2 z0 ?_;(try clear z0);intro N8 J8
    exact next _ _ _ _ _ ⟨G0,B,X,T,D⟩ F9 N8 J8
end Z3
theorem h_70:∀ j,j<70→∀ u,Pf j u:=histS 69 h_69 (gen 69 h_69 (by with_unfolding_all exact Z3.c_way_0))
theorem way_0 {body:List PySem.Stmt} {w:World} {dp un:Nat} {gd:Option (List Code)} {cs:Scope} {a:Addr} {A₀:Around} {base:Heap} {p:Program} {loose:List Str} {mean:ExcName→Option Value} {mg mb:Str→Option Value} {L I:Nat} {oI:Obj} {A:Ad} {s:Shared} {R:Result→Shared→Prop} {P:Flow→Shared→Prop} {dl bl ow sp:Addr} {h₀:Heap} {σ:Sg} {hl:Addr} {x:Int→Addr} {u u':Int→Tok} {S T1 T2:Led} {dv:List Value} {dn:List Int} {nd nb no ns nh:Nat} {s0 s1:Tok} {r:Str→Option Value} {o1 o2 o3 o4 o5 o6 o7 o8:Obj} {v3 v4 v5:Option Value} {at_ side:Int} {ta tb ts:Tok} : P_way_0 w dp un gd a A₀ base p loose mean mg mb L I oI A s R P dl bl ow sp h₀ σ hl x u u' S T1 T2 dv dn nd nb no ns nh s0 s1 r o1 o2 o3 o4 o5 o6 o7 o8 v3 v4 v5 at_ side ta tb ts body cs:=by with_unfolding_all exact h_70 69 (Nat.lt_succ_self 69) (sk0 |>.set 1 0 w |>.set 12 7 dp |>.set 12 8 un |>.set 42 0 gd |>.set 6 14 a |>.set 2 2 A₀ |>.set 5 2 base |>.set 0 1 p |>.set 35 1 loose |>.set 41 0 mean |>.set 7 4 mg |>.set 7 5 mb |>.set 12 19 L |>.set 12 20 I |>.set 16 7 oI |>.set 25 0 A |>.set 4 0 s |>.set 49 0 R |>.set 63 0 P |>.set 6 22 dl |>.set 6 18 bl |>.set 6 20 ow |>.set 6 19 sp |>.set 5 0 h₀ |>.set 28 0 σ |>.set 6 21 hl |>.set 60 0 x |>.set 61 0 u |>.set 61 1 u' |>.set 22 4 S |>.set 22 6 T1 |>.set 22 7 T2 |>.set 23 6 dv |>.set 24 2 dn |>.set 12 21 nd |>.set 12 13 nb |>.set 12 15 no |>.set 12 14 ns |>.set 12 16 nh |>.set 14 26 s0 |>.set 14 27 s1 |>.set 7 8 r |>.set 16 8 o1 |>.set 16 9 o2 |>.set 16 10 o3 |>.set 16 11 o4 |>.set 16 12 o5 |>.set 16 13 o6 |>.set 16 14 o7 |>.set 16 15 o8 |>.set 38 5 v3 |>.set 38 6 v4 |>.set 38 7 v5 |>.set 15 3 at_ |>.set 15 24 side |>.set 14 32 ta |>.set 14 14 tb |>.set 14 33 ts) body cs
theorem kw97_2:True:=by
  k_with "call ref" => ((fail_if_success have:=@e97_1);k_here;(with_reducible show wpAny _ _ (call (Value.ref 55) _) _ _ _);k_dflt (refine' Spec.useC (ledx:=[]) (st_like ?y0 ?y1 ?y2 ?y3 ?y4 ?y5 ?y6 ?y7 _ ?hS) ?B ?F ?X ?N ?C ?P ?hr ?T ?hk ?hd ?hu ?_;k_extra "us2";(case y0=>assumption);(case y1=>assumption);(case y2=>first | assumption | exact ids_iff.mpr ⟨by assumption,by assumption⟩);(case y3=>assumption);(case y4=>exact good_home ‹_› (by first | assumption | exact ids_iff.mpr ⟨by assumption,by assumption⟩));(case y5=>assumption);(case y6=>exact good_none ‹_› (by first | assumption | exact ids_iff.mpr ⟨by assumption,by assumption⟩));(case y7=>exact good_in ‹_› (by first | assumption | exact ids_iff.mpr ⟨by assumption,by assumption⟩));(case hr=>k_extra "h1");k_whole);intro v9 led9 h' tk' hP9;refine oe1 hP9 ?_;(try clear hP9);intro σ9 z0;refine oa2 z0 ?_;(try clear z0);intro z28 hS9;refine oa2 z28 ?_;(try clear z28);intro hv9 hσ9;subst hv9;intro F' N';rw [hσ9] at hS9;clear hσ9;(replace N':=reorder (a:=[]) N');k_extra "nn")
  trivial
namespace Z3
theorem c_way_3:∀ body cs,P_way_3 w dp un gd a A₀ base p loose mean mg mb L I oI A s R P dl bl ow sp h₀ σ hl x u u' S T1 T2 dv dn nd nb no ns nh s0 s1 r o1 o2 o3 o4 o5 o6 o7 o8 v3 v4 v5 at_ side (k14 32) (k14 14) ts body cs:=by
  intro body cs hb XB TB C1 C2 hc hd hu G II hlim ha hs F N c1 c2 c3 c4 c5 c6 c7 c8 next
  cases hb
  cases hc
  dsimp only
  have II0:=II
  refine and17 (II.ne_hl) ?_;intro e_hl_0 e_hl_1 e_hl_2 e_hl_3 e_hl_4 e_hl_5 e_hl_6 e_hl_7 e_hl_8 e_hl_9 e_hl_10 e_hl_11 e_hl_12 e_hl_13 e_hl_14 e_hl_15 e_hl_16
  refine and17 (II.ne_dl) ?_;intro e_dl_0 e_dl_1 e_dl_2 e_dl_3 e_dl_4 e_dl_5 e_dl_6 e_dl_7 e_dl_8 e_dl_9 e_dl_10 e_dl_11 e_dl_12 e_dl_13 e_dl_14 e_dl_15 e_dl_16
  obtain ⟨ok,hS,hT1,hT2,hdi,hdz,good,pts,lo,lI,lt,na,tt,tn,dis,dix⟩:=II0
  refine oa5 G ?_;(try clear G);intro G0 B X T D
  refine oa8 dis ?_;(try clear dis);intro dis1 dis2 dis3 dis4 dis5 dis6 dis7 z0;refine oa2 z0 ?_;(try clear z0);intro dis8 dis9
  have tsp:TupSpec x σ.home σ.pos u u':=⟨trivial⟩
  have nadl:=na dl (by k_extra "mem")
  have nabl:=na bl (by k_extra "mem")
  have naow:=na ow (by k_extra "mem")
  have nasp:=na sp (by k_extra "mem")
  have nahl:=na hl (by k_extra "mem")
  have nax0:=na (x 0) (by k_extra "mem")
  have nax1:=na (x 1) (by k_extra "mem")
  have nax2:=na (x 2) (by k_extra "mem")
  have nax3:=na (x 3) (by k_extra "mem")
  have naI:I ∉ A.all:=fun h=>(lo I (List.mem_append.mpr (.inr h))).2 rfl
  have nac1:L+1 ∉ A.all:=fun h=>cell_lt (k:=1) (by decide) (lo (L+1) (List.mem_append.mpr (.inr h))).1 rfl
  have nac2:L+1+1 ∉ A.all:=fun h=>cell_lt (k:=2) (by decide) (lo (L+1+1) (List.mem_append.mpr (.inr h))).1 rfl
  have nac3:L+1+1+1 ∉ A.all:=fun h=>cell_lt (k:=3) (by decide) (lo (L+1+1+1) (List.mem_append.mpr (.inr h))).1 rfl
  have nac4:L+1+1+1+1 ∉ A.all:=fun h=>cell_lt (k:=4) (by decide) (lo (L+1+1+1+1) (List.mem_append.mpr (.inr h))).1 rfl
  have nac5:L+1+1+1+1+1 ∉ A.all:=fun h=>cell_lt (k:=5) (by decide) (lo (L+1+1+1+1+1) (List.mem_append.mpr (.inr h))).1 rfl
  have nac6:L+1+1+1+1+1+1 ∉ A.all:=fun h=>cell_lt (k:=6) (by decide) (lo (L+1+1+1+1+1+1) (List.mem_append.mpr (.inr h))).1 rfl
  have nac7:L+1+1+1+1+1+1+1 ∉ A.all:=fun h=>cell_lt (k:=7) (by decide) (lo (L+1+1+1+1+1+1+1) (List.mem_append.mpr (.inr h))).1 rfl
  have nac8:L+1+1+1+1+1+1+1+1 ∉ A.all:=fun h=>cell_lt (k:=8) (by decide) (lo (L+1+1+1+1+1+1+1+1) (List.mem_append.mpr (.inr h))).1 rfl
  have fc1:∀ q∈T1++T2,@Ne Nat q.1 (L+1):=fun q hq=>fcell (k:=1) lt (tt q hq).2.1 (by decide)
  have fc2:∀ q∈T1++T2,@Ne Nat q.1 (L+1+1):=fun q hq=>fcell (k:=2) lt (tt q hq).2.1 (by decide)
  have fc3:∀ q∈T1++T2,@Ne Nat q.1 (L+1+1+1):=fun q hq=>fcell (k:=3) lt (tt q hq).2.1 (by decide)
  have fc4:∀ q∈T1++T2,@Ne Nat q.1 (L+1+1+1+1):=fun q hq=>fcell (k:=4) lt (tt q hq).2.1 (by decide)
  have fc5:∀ q∈T1++T2,@Ne Nat q.1 (L+1+1+1+1+1):=fun q hq=>fcell (k:=5) lt (tt q hq).2.1 (by decide)
  have fc6:∀ q∈T1++T2,@Ne Nat q.1 (L+1+1+1+1+1+1):=fun q hq=>fcell (k:=6) lt (tt q hq).2.1 (by decide)
  have fc7:∀ q∈T1++T2,@Ne Nat q.1 (L+1+1+1+1+1+1+1):=fun q hq=>fcell (k:=7) lt (tt q hq).2.1 (by decide)
  have fc8:∀ q∈T1++T2,@Ne Nat q.1 (L+1+1+1+1+1+1+1+1):=fun q hq=>fcell (k:=8) lt (tt q hq).2.1 (by decide)
  have fdl:∀ q∈T1++T2,@Ne Nat q.1 dl:=fun q hq=>(tt q hq).2.2.1
  have fsp:∀ q∈T1++T2,@Ne Nat q.1 sp:=fun q hq=>(tt q hq).2.2.2.1
  have fhl:∀ q∈T1++T2,@Ne Nat q.1 hl:=fun q hq=>(tt q hq).2.2.2.2.1
  have offT:Off A.all (T1++T2):=fun q hq=>(tt q hq).1
  have oodl:Off [dl] (T1++T2):=fun q hq h=>fdl q hq (List.mem_singleton.mp h)
  revert X;k_fill;intro X
  have hh9:σ.home at_=-1∨σ.home at_∈sides:=(good at_ ha).imp (·.1) (·.1)
  have hl9:σ.lim≤800:=by omega
  k_steps
  rename Fr _ _ _ _=>F9
  rename News _ _ _ _=>N9
  rename St _ _ _ _=>S9
  have hj9:=ids_of ‹_› ‹_›
  refine oe1 (lap_copy (lim:=σ.lim+18) II hj9 S9 ‹_› ‹_› N9 F9 rfl rfl rfl (Nat.le_add_right _ _) (good_set good (good _ hj9)) pts rfl rfl rfl ⟨_,_,_,_,_,_,c1,c2,c3,c4,c5,c7⟩ c6 c8) ?_;intro news9 z0;refine oa2 z0 ?_;(try clear z0);intro N8 J8
  exact next _ _ _ _ _ ⟨G0,B,X,T,D⟩ F9 N8 J8
end Z3
theorem h_71:∀ j,j<71→∀ u,Pf j u:=histS 70 h_70 (gen 70 h_70 (by with_unfolding_all exact Z3.c_way_3))
theorem way_3 {body:List PySem.Stmt} {w:World} {dp un:Nat} {gd:Option (List Code)} {cs:Scope} {a:Addr} {A₀:Around} {base:Heap} {p:Program} {loose:List Str} {mean:ExcName→Option Value} {mg mb:Str→Option Value} {L I:Nat} {oI:Obj} {A:Ad} {s:Shared} {R:Result→Shared→Prop} {P:Flow→Shared→Prop} {dl bl ow sp:Addr} {h₀:Heap} {σ:Sg} {hl:Addr} {x:Int→Addr} {u u':Int→Tok} {S T1 T2:Led} {dv:List Value} {dn:List Int} {nd nb no ns nh:Nat} {s0 s1:Tok} {r:Str→Option Value} {o1 o2 o3 o4 o5 o6 o7 o8:Obj} {v3 v4 v5:Option Value} {at_ side:Int} {ta tb ts:Tok} : P_way_3 w dp un gd a A₀ base p loose mean mg mb L I oI A s R P dl bl ow sp h₀ σ hl x u u' S T1 T2 dv dn nd nb no ns nh s0 s1 r o1 o2 o3 o4 o5 o6 o7 o8 v3 v4 v5 at_ side ta tb ts body cs:=by with_unfolding_all exact h_71 70 (Nat.lt_succ_self 70) (sk0 |>.set 1 0 w |>.set 12 7 dp |>.set 12 8 un |>.set 42 0 gd |>.set 6 14 a |>.set 2 2 A₀ |>.set 5 2 base |>.set 0 1 p |>.set 35 1 loose |>.set 41 0 mean |>.set 7 4 mg |>.set 7 5 mb |>.set 12 19 L |>.set 12 20 I |>.set 16 7 oI |>.set 25 0 A |>.set 4 0 s |>.set 49 0 R |>.set 63 0 P |>.set 6 22 dl |>.set 6 18 bl |>.set 6 20 ow |>.set 6 19 sp |>.set 5 0 h₀ |>.set 28 0 σ |>.set 6 21 hl |>.set 60 0 x |>.set 61 0 u |>.set 61 1 u' |>.set 22 4 S |>.set 22 6 T1 |>.set 22 7 T2 |>.set 23 6 dv |>.set 24 2 dn |>.set 12 21 nd |>.set 12 13 nb |>.set 12 15 no |>.set 12 14 ns |>.set 12 16 nh |>.set 14 26 s0 |>.set 14 27 s1 |>.set 7 8 r |>.set 16 8 o1 |>.set 16 9 o2 |>.set 16 10 o3 |>.set 16 11 o4 |>.set 16 12 o5 |>.set 16 13 o6 |>.set 16 14 o7 |>.set 16 15 o8 |>.set 38 5 v3 |>.set 38 6 v4 |>.set 38 7 v5 |>.set 15 3 at_ |>.set 15 24 side |>.set 14 32 ta |>.set 14 14 tb |>.set 14 33 ts) body cs
theorem e97_1:True:=trivial
end
end Mine
namespace Mine
open PyProof.V PyProof.Rows.LCg
theorem LI.low {w:World} {L I:Nat} {A:Ad} {σ:Sg} {dl bl ow sp hl:Addr} {x:Int→Addr} {S T1 T2:Led} {dv:List Value} {dn:List Int} (II:LI w L I A σ dl bl ow sp hl x S T1 T2 dv dn) {P:Nat} (hP:P<L) : @Ne Nat I P∧@Ne Nat (L+1+1+1+1+1+1+1+1) P∧@Ne Nat (L+1+1+1+1+1+1+1) P∧@Ne Nat (L+1+1+1+1+1+1) P∧@Ne Nat (L+1+1+1+1+1) P∧@Ne Nat (L+1+1+1+1) P∧@Ne Nat (L+1+1+1) P∧@Ne Nat (L+1+1) P∧@Ne Nat (L+1) P∧@Ne Nat dl P∧@Ne Nat bl P∧@Ne Nat ow P∧@Ne Nat sp P∧@Ne Nat hl P∧@Ne Nat (x 0) P∧@Ne Nat (x 1) P∧@Ne Nat (x 2) P∧@Ne Nat (x 3) P∧(∀ q∈S,@Ne Nat q.1 P):=by
  obtain ⟨_,hS,_,_,_,_,_,_,lo,lI,lt,_,_,_,_,_⟩:=II
  have g:∀ a:Nat,L+8<a→a≠P:=fun a h=>by omega
  have k:∀ k:Nat,L+k≠P:=fun k=>by omega
  exact ⟨g _ lI,k 8,k 7,k 6,k 5,k 4,k 3,k 2,k 1,g _ (lo dl (by k_extra "mem")).1,g _ (lo bl (by k_extra "mem")).1,g _ (lo ow (by k_extra "mem")).1,g _ (lo sp (by k_extra "mem")).1,g _ (lo hl (by k_extra "mem")).1,g _ (lo (x 0) (by k_extra "mem")).1,g _ (lo (x 1) (by k_extra "mem")).1,g _ (lo (x 2) (by k_extra "mem")).1,g _ (lo (x 3) (by k_extra "mem")).1,fun q hq=>g _ (lo q.1 (List.mem_append.mpr (.inr (hS.adr ▸ List.mem_map.mpr ⟨q,hq,rfl⟩)))).1⟩
namespace Z3
theorem c_tt_new:P_tt_new w L I oI A σ dl bl ow sp hl x u u' S T1 T2 (k22 9) dv nd nb no ns nh s0 s1 o1 o2 o3 o4 o5 o6 o7 o8 q:=by
  intro hS lI hW h
  have hI:=h (I,oI) (hW _ (by k_extra "mem"))
  have hdl:=h (dl,listOf (List.toArray dv) nd) (hW _ (by k_extra "mem"))
  have hsp:=h (sp,listOf #[.int (σ.point 0) s0,.int (σ.point 1) s1] ns) (hW _ (by k_extra "mem"))
  have hhl:=h (hl,listOf #[.ref (x 0),.ref (x 1),.ref (x 2),.ref (x 3)] nh) (hW _ (by k_extra "mem"))
  refine ⟨fun hm=>?_,Nat.lt_trans lI hI,Nat.ne_of_gt hdl,Nat.ne_of_gt hsp,Nat.ne_of_gt hhl,Nat.ne_of_gt hI⟩
  rw [← hS.adr] at hm
  refine oe1 (List.mem_map.mp hm) ?_;intro p z0;refine oa2 z0 ?_;(try clear z0);intro hp e
  have:=h p (hW _ ((by k_extra "opq" : ∀ p∈S,p∈_) _ hp))
  rw [e] at this
  exact Nat.lt_irrefl _ this
end Z3
theorem h_72:∀ j,j<72→∀ u,Pf j u:=histS 71 h_71 (gen 71 h_71 (by with_unfolding_all exact Z3.c_tt_new))
theorem tt_new {w:World} {L I:Nat} {oI:Obj} {A:Ad} {σ:Sg} {dl bl ow sp hl:Addr} {x:Int→Addr} {u u':Int→Tok} {S T1 T2 W:Led} {dv:List Value} {nd nb no ns nh:Nat} {s0 s1:Tok} {o1 o2 o3 o4 o5 o6 o7 o8:Obj} (hS:St w A σ S) (lI:L+8<I) (hW:∀ q∈(I,oI)::(L+1+1+1+1+1+1+1+1,o8)::(L+1+1+1+1+1+1+1,o7)::(L+1+1+1+1+1+1,o6)::(L+1+1+1+1+1,o5)::(L+1+1+1+1,o4)::(L+1+1+1,o3)::(L+1+1,o2)::(L+1,o1)::(dl,listOf (List.toArray dv) nd)::(bl,listOf #[.ref (A.b 0),.ref (A.b 1)] nb)::(ow,listOf #[.ref (A.ma 0),.ref (A.ma 1),.ref (A.ma 2),.ref (A.ma 3)] no)::(sp,listOf #[.int (σ.point 0) s0,.int (σ.point 1) s1] ns)::(hl,listOf #[.ref (x 0),.ref (x 1),.ref (x 2),.ref (x 3)] nh)::(x 0,tupO (σ.home 0) (σ.pos 0) (u 0) (u' 0))::(x 1,tupO (σ.home 1) (σ.pos 1) (u 1) (u' 1))::(x 2,tupO (σ.home 2) (σ.pos 2) (u 2) (u' 2))::(x 3,tupO (σ.home 3) (σ.pos 3) (u 3) (u' 3))::(S++(T1++T2)),q∈W) (q:Prod Addr Obj) (h:∀ p∈W,@LT.lt Nat _ p.1 q.1) : q.1 ∉ A.all∧(@LT.lt Nat _ (L+8) q.1)∧@Ne Nat q.1 dl∧@Ne Nat q.1 sp∧@Ne Nat q.1 hl∧@Ne Nat q.1 I:=by with_unfolding_all exact h_72 71 (Nat.lt_succ_self 71) (sk0 |>.set 1 0 w |>.set 12 19 L |>.set 12 20 I |>.set 16 7 oI |>.set 25 0 A |>.set 28 0 σ |>.set 6 22 dl |>.set 6 18 bl |>.set 6 20 ow |>.set 6 19 sp |>.set 6 21 hl |>.set 60 0 x |>.set 61 0 u |>.set 61 1 u' |>.set 22 4 S |>.set 22 6 T1 |>.set 22 7 T2 |>.set 22 9 W |>.set 23 6 dv |>.set 12 21 nd |>.set 12 13 nb |>.set 12 15 no |>.set 12 14 ns |>.set 12 16 nh |>.set 14 26 s0 |>.set 14 27 s1 |>.set 16 8 o1 |>.set 16 9 o2 |>.set 16 10 o3 |>.set 16 11 o4 |>.set 16 12 o5 |>.set 16 13 o6 |>.set 16 14 o7 |>.set 16 15 o8 |>.set 64 0 q) hS lI hW h
theorem LI.tab1 {w:World} {L I:Nat} {oI:Obj} {A:Ad} {σ:Sg} {dl bl ow sp hl:Addr} {x:Int→Addr} {u u':Int→Tok} {S T1 T2 T' W:Led} {dv:List Value} {dn:List Int} {nd nb no ns nh:Nat} {s0 s1:Tok} {o1 o2 o3 o4 o5 o6 o7 o8:Obj} (II:LI w L I A σ dl bl ow sp hl x S T1 T2 dv dn) (hT:TabL 529 (ofString "_law_is_so.<locals>.<lambda>") T')
    (hW:∀ q∈(I,oI)::(L+1+1+1+1+1+1+1+1,o8)::(L+1+1+1+1+1+1+1,o7)::(L+1+1+1+1+1+1,o6)::(L+1+1+1+1+1,o5)::(L+1+1+1+1,o4)::(L+1+1+1,o3)::(L+1+1,o2)::(L+1,o1)::(dl,listOf (List.toArray dv) nd)::(bl,listOf #[.ref (A.b 0),.ref (A.b 1)] nb)::(ow,listOf #[.ref (A.ma 0),.ref (A.ma 1),.ref (A.ma 2),.ref (A.ma 3)] no)::(sp,listOf #[.int (σ.point 0) s0,.int (σ.point 1) s1] ns)::(hl,listOf #[.ref (x 0),.ref (x 1),.ref (x 2),.ref (x 3)] nh)::(x 0,tupO (σ.home 0) (σ.pos 0) (u 0) (u' 0))::(x 1,tupO (σ.home 1) (σ.pos 1) (u 1) (u' 1))::(x 2,tupO (σ.home 2) (σ.pos 2) (u 2) (u' 2))::(x 3,tupO (σ.home 3) (σ.pos 3) (u 3) (u' 3))::(S++(T1++T2)),q∈W) (hn:∀ q∈T',q.1∈T1.map (·.1)∨∀ p∈W,@LT.lt Nat _ p.1 q.1) : LI w L I A σ dl bl ow sp hl x S T' T2 dv dn:=by
  obtain ⟨ok,hS,t1,t2,di,dz,good,pts,lo,lI,lt,na,tt,tn,dis,dix⟩:=II
  have key:∀ q∈T',q.1∈T1.map (·.1)∨(q.1 ∉ A.all∧(@LT.lt Nat _ (L+8) q.1)∧@Ne Nat q.1 dl∧@Ne Nat q.1 sp∧@Ne Nat q.1 hl∧@Ne Nat q.1 I):=fun q hq=>(hn q hq).imp id fun h=>tt_new hS lI hW q h
  refine ⟨ok,hS,hT,t2,di,dz,good,pts,lo,lI,lt,na,fun q hq=>?_,⟨fun q hq=>?_,tn.2⟩,dis,dix⟩
  · rcases List.mem_append.mp hq with h | h
    · rcases key q h with z | ⟨z1,z2,z3⟩
      · refine oe1 (List.mem_map.mp z) ?_;intro q2 z0;refine oa2 z0 ?_;(try clear z0);intro h2 e2
        have:=tt q2 (List.mem_append.mpr (.inl h2))
        rw [e2] at this
        exact this
      · exact ⟨z1,.inr (.inr z2),z3⟩
    · exact tt q (List.mem_append.mpr (.inr h))
  · rcases key q hq with z | ⟨z1,z2,z3⟩
    · refine oe1 (List.mem_map.mp z) ?_;intro q2 z0;refine oa2 z0 ?_;(try clear z0);intro h2 e2
      have:=tn.1 q2 h2
      rw [e2] at this
      exact this
    · omega
theorem LI.tab2 {w:World} {L I:Nat} {oI:Obj} {A:Ad} {σ:Sg} {dl bl ow sp hl:Addr} {x:Int→Addr} {u u':Int→Tok} {S T1 T2 T' W:Led} {dv:List Value} {dn:List Int} {nd nb no ns nh:Nat} {s0 s1:Tok} {o1 o2 o3 o4 o5 o6 o7 o8:Obj} (II:LI w L I A σ dl bl ow sp hl x S T1 T2 dv dn) (hT:TabL 541 (ofString "law.<locals>.<lambda>") T')
    (hW:∀ q∈(I,oI)::(L+1+1+1+1+1+1+1+1,o8)::(L+1+1+1+1+1+1+1,o7)::(L+1+1+1+1+1+1,o6)::(L+1+1+1+1+1,o5)::(L+1+1+1+1,o4)::(L+1+1+1,o3)::(L+1+1,o2)::(L+1,o1)::(dl,listOf (List.toArray dv) nd)::(bl,listOf #[.ref (A.b 0),.ref (A.b 1)] nb)::(ow,listOf #[.ref (A.ma 0),.ref (A.ma 1),.ref (A.ma 2),.ref (A.ma 3)] no)::(sp,listOf #[.int (σ.point 0) s0,.int (σ.point 1) s1] ns)::(hl,listOf #[.ref (x 0),.ref (x 1),.ref (x 2),.ref (x 3)] nh)::(x 0,tupO (σ.home 0) (σ.pos 0) (u 0) (u' 0))::(x 1,tupO (σ.home 1) (σ.pos 1) (u 1) (u' 1))::(x 2,tupO (σ.home 2) (σ.pos 2) (u 2) (u' 2))::(x 3,tupO (σ.home 3) (σ.pos 3) (u 3) (u' 3))::(S++(T1++T2)),q∈W) (hn:∀ q∈T',q.1∈T2.map (·.1)∨∀ p∈W,@LT.lt Nat _ p.1 q.1) : LI w L I A σ dl bl ow sp hl x S T1 T' dv dn:=by
  obtain ⟨ok,hS,t1,t2,di,dz,good,pts,lo,lI,lt,na,tt,tn,dis,dix⟩:=II
  have key:∀ q∈T',q.1∈T2.map (·.1)∨(q.1 ∉ A.all∧(@LT.lt Nat _ (L+8) q.1)∧@Ne Nat q.1 dl∧@Ne Nat q.1 sp∧@Ne Nat q.1 hl∧@Ne Nat q.1 I):=fun q hq=>(hn q hq).imp id fun h=>tt_new hS lI hW q h
  refine ⟨ok,hS,t1,hT,di,dz,good,pts,lo,lI,lt,na,fun q hq=>?_,⟨tn.1,fun q hq=>?_⟩,dis,dix⟩
  · rcases List.mem_append.mp hq with h | h
    · exact tt q (List.mem_append.mpr (.inl h))
    · rcases key q h with z | ⟨z1,z2,z3⟩
      · refine oe1 (List.mem_map.mp z) ?_;intro q2 z0;refine oa2 z0 ?_;(try clear z0);intro h2 e2
        have:=tt q2 (List.mem_append.mpr (.inr h2))
        rw [e2] at this
        exact this
      · exact ⟨z1,.inr (.inr z2),z3⟩
  · rcases key q hq with z | ⟨z1,z2,z3⟩
    · refine oe1 (List.mem_map.mp z) ?_;intro q2 z0;refine oa2 z0 ?_;(try clear z0);intro h2 e2
      have:=tn.2 q2 h2
      rw [e2] at this
      exact this
    · omega
namespace Z3
theorem c_lap_gen:P_lap_gen w L I oI A σ dl bl ow sp hl x u u' S T1 T2 dv dn nd nb no ns nh s0 s1 o1 o2 o3 o4 o5 o6 o7 o8 lim h₀ (k5 3) m':=by
  intro II N x9 hlim h1 h2 h3 cs c6 c8
  exact ⟨_,N,σ,hl,x,u,u',S,T1,T2,dv,dn,nd,nb,no,ns,nh,s0,s1,_,o1,o2,o3,o4,o5,o6,o7,o8,II,hlim,ml_of h1 h2 h3,rfl,cs,c6,c8⟩
end Z3
theorem h_73:∀ j,j<73→∀ u,Pf j u:=histS 72 h_72 (gen 72 h_72 (by with_unfolding_all exact Z3.c_lap_gen))
theorem lap_gen {w:World} {L I:Nat} {oI:Obj} {A:Ad} {σ:Sg} {dl bl ow sp hl:Addr} {x:Int→Addr} {u u':Int→Tok} {S T1 T2:Led} {dv:List Value} {dn:List Int} {nd nb no ns nh:Nat} {s0 s1:Tok} {o1 o2 o3 o4 o5 o6 o7 o8:Obj} {lim:Nat} {h₀ h':Heap} {m':Str→Option Value} : P_lap_gen w L I oI A σ dl bl ow sp hl x u u' S T1 T2 dv dn nd nb no ns nh s0 s1 o1 o2 o3 o4 o5 o6 o7 o8 lim h₀ h' m':=by with_unfolding_all exact h_73 72 (Nat.lt_succ_self 72) (sk0 |>.set 1 0 w |>.set 12 19 L |>.set 12 20 I |>.set 16 7 oI |>.set 25 0 A |>.set 28 0 σ |>.set 6 22 dl |>.set 6 18 bl |>.set 6 20 ow |>.set 6 19 sp |>.set 6 21 hl |>.set 60 0 x |>.set 61 0 u |>.set 61 1 u' |>.set 22 4 S |>.set 22 6 T1 |>.set 22 7 T2 |>.set 23 6 dv |>.set 24 2 dn |>.set 12 21 nd |>.set 12 13 nb |>.set 12 15 no |>.set 12 14 ns |>.set 12 16 nh |>.set 14 26 s0 |>.set 14 27 s1 |>.set 16 8 o1 |>.set 16 9 o2 |>.set 16 10 o3 |>.set 16 11 o4 |>.set 16 12 o5 |>.set 16 13 o6 |>.set 16 14 o7 |>.set 16 15 o8 |>.set 12 3 lim |>.set 5 0 h₀ |>.set 5 3 h' |>.set 7 6 m')
theorem pts_set {σ:Sg} {j k:Int} (pts:∀ j∈sides,0≤σ.size j∧σ.size j≤σ.lim∧1≤σ.point j∧σ.point j≤σ.size j+1) (h1:1≤k) (h2:k≤σ.size j+1) : ∀ i∈sides,0≤σ.size i∧σ.size i≤σ.lim∧1≤upd σ.point j k i∧upd σ.point j k i≤σ.size i+1:=fun i hi=>by
  by_cases e:i=j
  · subst e;rw [upd_same];exact ⟨(pts i hi).1,(pts i hi).2.1,h1,h2⟩
  · rw [upd_other e];exact pts i hi
namespace Z3
theorem c_lap_row2:P_lap_row2 (k21 1) w L I oI A σ (k28 1) dl bl ow sp hl x u u' S S' T1 T2 dv dv' dn dn' nd nb no ns nh s0 s1 o1 o2 o3 o4 o5 o6 o7 o8 lim h₀ (k5 3) m' i (k15 22) (k15 23) T b b':=by
  intro II hS di dz N x9 l1 eh ep et hlim good pts h1 h2 h3 cs c6 c8
  refine ⟨_,News.sub N ?_,(k28 1),hl,updA x i T,updT u i b,updT u' i b',S',T1,T2,dv',dn',nd,nb,no,ns,nh,s0,s1,_,o1,o2,o3,o4,o5,o6,o7,o8,II.row hS di dz l1 good pts,hlim,ml_of h1 h2 h3,rfl,cs,c6,c8⟩
  rw [et,eh,ep]
  refine news_rows (pre:=[(I,oI),(L+1+1+1+1+1+1+1+1,o8),(L+1+1+1+1+1+1+1,o7),(L+1+1+1+1+1+1,o6),(L+1+1+1+1+1,o5),(L+1+1+1+1,o4),(L+1+1+1,o3),(L+1+1,o2),(L+1,o1),(dl,listOf (List.toArray dv') nd),(bl,listOf #[.ref (A.b 0),.ref (A.b 1)] nb),(ow,listOf #[.ref (A.ma 0),.ref (A.ma 1),.ref (A.ma 2),.ref (A.ma 3)] no),(sp,listOf #[.int ((k21 1) 0) s0,.int ((k21 1) 1) s1] ns),(hl,listOf #[.ref (updA x i T 0),.ref (updA x i T 1),.ref (updA x i T 2),.ref (updA x i T 3)] nh)]) (rows_upd (List.mem_cons_self) fun k hk=>.tail _ (all_rows ?_ ?_ ?_ ?_ k hk)) (fun q hq=>.tail _ (List.mem_append_left _ hq)) fun q hq=>?_
  · simp only [List.mem_cons,true_or,or_true]
  · simp only [List.mem_cons,true_or,or_true]
  · simp only [List.mem_cons,true_or,or_true]
  · simp only [List.mem_cons,true_or,or_true]
  · simp only [List.mem_cons,hq,or_true]
end Z3
theorem h_74:∀ j,j<74→∀ u,Pf j u:=histS 73 h_73 (gen 73 h_73 (by with_unfolding_all exact Z3.c_lap_row2))
theorem lap_row2 {f:Int→Int} {w:World} {L I:Nat} {oI:Obj} {A:Ad} {σ σ':Sg} {dl bl ow sp hl:Addr} {x:Int→Addr} {u u':Int→Tok} {S S' T1 T2:Led} {dv dv':List Value} {dn dn':List Int} {nd nb no ns nh:Nat} {s0 s1:Tok} {o1 o2 o3 o4 o5 o6 o7 o8:Obj} {lim:Nat} {h₀ h':Heap} {m':Str→Option Value} {i hn pn:Int} {T:Addr} {b b':Tok} : P_lap_row2 f w L I oI A σ σ' dl bl ow sp hl x u u' S S' T1 T2 dv dv' dn dn' nd nb no ns nh s0 s1 o1 o2 o3 o4 o5 o6 o7 o8 lim h₀ h' m' i hn pn T b b':=by with_unfolding_all exact h_74 73 (Nat.lt_succ_self 73) (sk0 |>.set 21 1 f |>.set 1 0 w |>.set 12 19 L |>.set 12 20 I |>.set 16 7 oI |>.set 25 0 A |>.set 28 0 σ |>.set 28 1 σ' |>.set 6 22 dl |>.set 6 18 bl |>.set 6 20 ow |>.set 6 19 sp |>.set 6 21 hl |>.set 60 0 x |>.set 61 0 u |>.set 61 1 u' |>.set 22 4 S |>.set 22 8 S' |>.set 22 6 T1 |>.set 22 7 T2 |>.set 23 6 dv |>.set 23 7 dv' |>.set 24 2 dn |>.set 24 3 dn' |>.set 12 21 nd |>.set 12 13 nb |>.set 12 15 no |>.set 12 14 ns |>.set 12 16 nh |>.set 14 26 s0 |>.set 14 27 s1 |>.set 16 8 o1 |>.set 16 9 o2 |>.set 16 10 o3 |>.set 16 11 o4 |>.set 16 12 o5 |>.set 16 13 o6 |>.set 16 14 o7 |>.set 16 15 o8 |>.set 12 3 lim |>.set 5 0 h₀ |>.set 5 3 h' |>.set 7 6 m' |>.set 15 7 i |>.set 15 22 hn |>.set 15 23 pn |>.set 6 23 T |>.set 14 30 b |>.set 14 31 b')
end Mine
namespace Mine
section
theorem kw101_1:True:=by
  k_with "subscriptTail Name Name ref int" => ((fail_if_success have:=@e101_1);k_here;k_dflt (first | (refine' sub_spots (f:=upd _ _ _) ?N ?l ?v ?_ ?s ?t;(case N=>k_asm);(case l=>k_mem);(case v=>assumption);k_extra "tl") | (refine' sub_spots (f:=Sg.point _) ?N ?l ?v ?_ ?s ?t;(case N=>k_asm);(case l=>k_mem);(case v=>assumption);k_extra "tl")))
  k_with "setItem ref int" => ((fail_if_success have:=@e101_1);k_here;(with_reducible show wpAny _ _ (setItem (Value.ref _) (Value.int _ _) (Value.int _ _)) _ _ _);k_dflt (refine' set_spots (f:=Sg.point _) ?F ?N ?hj ?U ?_;(case F=>k_asm);(case N=>k_asm);(case hj=>assumption);(case U=>k_upd);k_whole);intro h' F' N';(try dsimp only [List.nil_append,List.cons_append] at N'))
  k_with "subscriptTail" => ((fail_if_success have:=@e101_1);k_here;k_dflt (first | ((with_reducible show wpAny _ _ (subscriptTail _ _ (Value.ref _) (Value.int 0 _)) _ _ _);refine' sub_row0 ?N ?o ?l ?l0 ?l1 ?l2 ?l3 ?_ ?s ?t;(case N=>k_asm);(case o=>assumption);(case l=>assumption);(case l0=>k_mem);(case l1=>k_mem);(case l2=>k_mem);(case l3=>k_mem);k_extra "tl") | ((with_reducible show wpAny _ _ (subscriptTail _ _ (Value.ref _) (Value.int 1 _)) _ _ _);refine' sub_row1 ?N ?o ?l ?l0 ?l1 ?l2 ?l3 ?_ ?s ?t;(case N=>k_asm);(case o=>assumption);(case l=>assumption);(case l0=>k_mem);(case l1=>k_mem);(case l2=>k_mem);(case l3=>k_mem);k_extra "tl")))
  k_with "eval Lambda" => ((fail_if_success have:=@e101_1);k_here;refine Halt.intro ?_)
  k_with "call ref" => ((fail_if_success have:=@e101_1);k_here;(with_reducible show wpAny _ _ (call (Value.ref 527) _) _ _ _);refine Halt.intro ?_)
  k_with "call ref" => ((fail_if_success have:=@e101_1);k_here;(with_reducible show wpAny _ _ (call (Value.ref 69) _) _ _ _);k_dflt (refine' Spec.useC (ledx:=[]) (st_gotom ?y0 ?y1 ?y2 ?y3 _ ?hS) ?B ?F ?X ?N ?C ?P ?hr ?T ?hk ?hd ?hu ?_;k_extra "us2";(case y0=>assumption);(case y1=>assumption);(case y2=>assumption);(case y3=>assumption);(case hr=>k_extra "h1");k_whole);intro v9 led9 h' tk' hP9;refine oe1 hP9 ?_;(try clear hP9);intro σ9 z0;refine oa2 z0 ?_;(try clear z0);intro z29 hS9;refine oa2 z29 ?_;(try clear z29);intro z30 hσ9;refine oe1 z30 ?_;(try clear z30);intro t9 hv9;subst hv9;intro F' N';rw [hσ9] at hS9;clear hσ9;(replace N':=reorder (a:=[]) N');k_extra "nn")
  k_with "call ref" => ((fail_if_success have:=@e101_1);k_here;(with_reducible show wpAny _ _ (call (Value.ref 69) _) _ _ _);k_dflt (refine' SpecR.use (r_goto0 ?y0 ?y1 _ ?hS) ?B ?F ?X ?N ?k ?T ?hk ?hd ?hu ?_;(case y0=>assumption);(case y1=>assumption);(case hS=>assumption);k_extra "us4";(case k=>(k_extra "opq"));k_extra "us5";k_whole);intro G9 e9 d9 od9 h' tk' FG9 U9 S9 R9;(try dsimp only))
  k_with "call ref" => ((fail_if_success have:=@e101_1);k_here;(with_reducible show wpAny _ _ (call (Value.ref 69) _) _ _ _);k_dflt (refine' SpecR.use (r_goto1 ?y0 ?y1 ?y2 ?y3 ?y4 ?y5 _ ?hS) ?B ?F ?X ?N ?k ?T ?hk ?hd ?hu ?_;(case y0=>assumption);(case y1=>assumption);(case y2=>assumption);(case y3=>assumption);(case y4=>exact rfl);(case y5=>assumption);(case hS=>assumption);k_extra "us4";(case k=>(k_extra "opq"));k_extra "us5";k_whole);intro G9 e9 d9 od9 h' tk' FG9 U9 S9 R9;(try dsimp only))
  trivial
namespace Z3
theorem c_way_5:∀ body cs,P_way_5 w dp un gd a A₀ base p loose mean mg mb L I oI A s R P dl bl ow sp h₀ σ hl x u u' S T1 T2 dv dn nd nb no ns nh s0 s1 r o1 o2 o3 o4 o5 o6 o7 o8 v3 v4 v5 at_ side (k14 32) (k14 14) ts body cs:=by
  intro body cs hb XB TB C1 C2 hc hd hu G II hlim ha hs F N c1 c2 c3 c4 c5 c6 c7 c8 next
  cases hb
  cases hc
  dsimp only
  have II0:=II
  refine and17 (II.ne_hl) ?_;intro e_hl_0 e_hl_1 e_hl_2 e_hl_3 e_hl_4 e_hl_5 e_hl_6 e_hl_7 e_hl_8 e_hl_9 e_hl_10 e_hl_11 e_hl_12 e_hl_13 e_hl_14 e_hl_15 e_hl_16
  refine and17 (II.ne_sp) ?_;intro e_sp_0 e_sp_1 e_sp_2 e_sp_3 e_sp_4 e_sp_5 e_sp_6 e_sp_7 e_sp_8 e_sp_9 e_sp_10 e_sp_11 e_sp_12 e_sp_13 e_sp_14 e_sp_15 e_sp_16
  obtain ⟨ok,hS,hT1,hT2,hdi,hdz,good,pts,lo,lI,lt,na,tt,tn,dis,dix⟩:=II0
  refine oa5 G ?_;(try clear G);intro G0 B X T D
  refine oa8 dis ?_;(try clear dis);intro dis1 dis2 dis3 dis4 dis5 dis6 dis7 z0;refine oa2 z0 ?_;(try clear z0);intro dis8 dis9
  have tsp:TupSpec x σ.home σ.pos u u':=⟨trivial⟩
  have nadl:=na dl (by k_extra "mem")
  have nabl:=na bl (by k_extra "mem")
  have naow:=na ow (by k_extra "mem")
  have nasp:=na sp (by k_extra "mem")
  have nahl:=na hl (by k_extra "mem")
  have nax0:=na (x 0) (by k_extra "mem")
  have nax1:=na (x 1) (by k_extra "mem")
  have nax2:=na (x 2) (by k_extra "mem")
  have nax3:=na (x 3) (by k_extra "mem")
  have naI:I ∉ A.all:=fun h=>(lo I (List.mem_append.mpr (.inr h))).2 rfl
  have nac1:L+1 ∉ A.all:=fun h=>cell_lt (k:=1) (by decide) (lo (L+1) (List.mem_append.mpr (.inr h))).1 rfl
  have nac2:L+1+1 ∉ A.all:=fun h=>cell_lt (k:=2) (by decide) (lo (L+1+1) (List.mem_append.mpr (.inr h))).1 rfl
  have nac3:L+1+1+1 ∉ A.all:=fun h=>cell_lt (k:=3) (by decide) (lo (L+1+1+1) (List.mem_append.mpr (.inr h))).1 rfl
  have nac4:L+1+1+1+1 ∉ A.all:=fun h=>cell_lt (k:=4) (by decide) (lo (L+1+1+1+1) (List.mem_append.mpr (.inr h))).1 rfl
  have nac5:L+1+1+1+1+1 ∉ A.all:=fun h=>cell_lt (k:=5) (by decide) (lo (L+1+1+1+1+1) (List.mem_append.mpr (.inr h))).1 rfl
  have nac6:L+1+1+1+1+1+1 ∉ A.all:=fun h=>cell_lt (k:=6) (by decide) (lo (L+1+1+1+1+1+1) (List.mem_append.mpr (.inr h))).1 rfl
  have nac7:L+1+1+1+1+1+1+1 ∉ A.all:=fun h=>cell_lt (k:=7) (by decide) (lo (L+1+1+1+1+1+1+1) (List.mem_append.mpr (.inr h))).1 rfl
  have nac8:L+1+1+1+1+1+1+1+1 ∉ A.all:=fun h=>cell_lt (k:=8) (by decide) (lo (L+1+1+1+1+1+1+1+1) (List.mem_append.mpr (.inr h))).1 rfl
  have fc1:∀ q∈T1++T2,@Ne Nat q.1 (L+1):=fun q hq=>fcell (k:=1) lt (tt q hq).2.1 (by decide)
  have fc2:∀ q∈T1++T2,@Ne Nat q.1 (L+1+1):=fun q hq=>fcell (k:=2) lt (tt q hq).2.1 (by decide)
  have fc3:∀ q∈T1++T2,@Ne Nat q.1 (L+1+1+1):=fun q hq=>fcell (k:=3) lt (tt q hq).2.1 (by decide)
  have fc4:∀ q∈T1++T2,@Ne Nat q.1 (L+1+1+1+1):=fun q hq=>fcell (k:=4) lt (tt q hq).2.1 (by decide)
  have fc5:∀ q∈T1++T2,@Ne Nat q.1 (L+1+1+1+1+1):=fun q hq=>fcell (k:=5) lt (tt q hq).2.1 (by decide)
  have fc6:∀ q∈T1++T2,@Ne Nat q.1 (L+1+1+1+1+1+1):=fun q hq=>fcell (k:=6) lt (tt q hq).2.1 (by decide)
  have fc7:∀ q∈T1++T2,@Ne Nat q.1 (L+1+1+1+1+1+1+1):=fun q hq=>fcell (k:=7) lt (tt q hq).2.1 (by decide)
  have fc8:∀ q∈T1++T2,@Ne Nat q.1 (L+1+1+1+1+1+1+1+1):=fun q hq=>fcell (k:=8) lt (tt q hq).2.1 (by decide)
  have fdl:∀ q∈T1++T2,@Ne Nat q.1 dl:=fun q hq=>(tt q hq).2.2.1
  have fsp:∀ q∈T1++T2,@Ne Nat q.1 sp:=fun q hq=>(tt q hq).2.2.2.1
  have fhl:∀ q∈T1++T2,@Ne Nat q.1 hl:=fun q hq=>(tt q hq).2.2.2.2.1
  have offT:Off A.all (T1++T2):=fun q hq=>(tt q hq).1
  have oodl:Off [dl] (T1++T2):=fun q hq h=>fdl q hq (List.mem_singleton.mp h)
  revert X;k_fill;intro X
  have hh9:σ.home at_=-1∨σ.home at_∈sides:=(good at_ ha).imp (·.1) (·.1)
  have hl9:σ.lim≤800:=by omega
  k_steps
  · rename σ.home at_≠side=>hne
    unfold Halt
    rename Fr _ _ _ _=>F9
    rename News _ _ _ _=>N9
    rw [← List.append_nil T2] at N9
    refine' lam_makeN (c:=543) (P:=541) (Tl:=T2) (qual:=(ofString "law.<locals>.<lambda>")) ?F ?N ?c ?T ?C ?cd ?hT ?hr ?df ?q ?cl ?_
    (case F=>exact F9)
    (case N=>exact N9)
    (case c=>(repeat' first | exact CutA.here | refine' CutA.step ?_ | refine' CutA.app ?_))
    (case T=>exact T)
    (case C=>exact C2.keeps B.stays)
    (case cd=>rfl)
    (case hT=>exact hT2)
    (case hr =>
      refine and19 (II.low lt.2) ?_;intro n_I n8 n7 n6 n5 n4 n3 n2 n1 n_dl n_bl n_ow n_sp n_hl n_x0 n_x1 n_x2 n_x3 n_S
      exact (by repeat' first | exact ne_nl | assumption | exact II.tn.1 | refine ne_app ?_ ?_ | refine ne_con ?_ ?_))
    (case df=>rfl)
    (case q=>rfl)
    (case cl=>rfl)
    intro f9 c9 ctv9 pm9 T2' h' tk' hT2' F' N' hcode hlt9 hnew9
    clear F9 N9
    simp only [List.cons_append,List.nil_append,List.append_assoc,List.append_nil] at N' hlt9 hnew9
    k_steps
    unfold Halt
    rename Fr _ _ _ _=>F9
    rename News _ _ _ _=>N9
    refine' x_refusedN (dz:=14) ?B ?F ?X ?N ?T ?XB ?TB ?D ?hfn ?hfo ?S ?hk ?hd ?hu ?_
    (case B=>exact B)
    (case F=>exact F9)
    (case X=>exact X)
    (case N=>exact N9)
    (case T=>exact T)
    (case XB=>exact XB)
    (case TB=>exact TB)
    (case D=>exact D)
    (case hfn=>exact .head _)
    (case hfo=>exact rfl)
    (case hk=>exact rfl)
    (case hd=>ktr_room)
    (case hu=>ktr_units)
    case S =>
      intro p2 loose2 mean2 mg2 mb2 dp2 un2 gd2 cn2 cs2 a2 ccd2 cl2 outer2 A2 base2 h2 L2 m2 rest2 s2 Q2 E2 B F X N Tp hk hd hu ret2
      refine wpAny_call (kla_code B F X N Tp rfl rfl hk (.head _) ?_ (show dp2<recursionLimit by omega) rfl (by intro y hy;cases hy) ?_ rfl rfl rfl ?_)
      · refine oe3 hcode ?_;(try clear hcode);intro oc vs t z0;refine oa3 z0 ?_;(try clear z0);intro z1 z2 z3
        exact ⟨c9,oc,vs,t,rfl,(N (c9,oc) ((by k_extra "opq" : ∀ p∈T2',p∈_) _ z1)).1,z2,z3⟩
      · intro g3 L3 h3 FG3 F3 N3 B3 X3 T3
        simp only [List.cons_append,List.nil_append,List.append_assoc] at N3
        rcases hh9 with e9 | e9
        all_goals (
          k_steps
          rename RaisedD _ _ _ _ _ _ _=>R9
          rename Heap.UpToSlots _ _=>U9
          rename SymOk _=>S9
          rename Fr _ _ _ _=>FG9
          refine' raised_on ?K ?F ?hf ?R ?U ?_
          (case K=>exact B3)
          (case F=>exact FG9)
          (case hf=>exact rfl)
          (case R=>exact R9)
          (case U=>exact U9)
          intro h9 R8 U8
          exact ret2 _ _ _ _ h9 _ FG3 U8 S9 (R8.sub fun q hq=>by simpa only [List.cons_append,List.nil_append,List.append_assoc] using hq))
      · decide
    intro h₀2 h2 tk2 t2 F' N' B2 X2 T2_ D2
    clear F9 N9
    k_steps
    rename Fr _ _ _ _=>F9
    rename News _ _ _ _=>N9
    have II2:=II.tab2 hT2' (fun q hq=>hq) hnew9
    refine oe1 (lap_gen (lim:=σ.lim+18) II2 (News.sub N9 fun q hq=>.tail _ hq) F9 (Nat.le_add_right _ _) rfl rfl rfl ⟨_,_,_,_,_,_,c1,c2,c3,c4,c5,c7⟩ c6 c8) ?_;intro news9 z0;refine oa2 z0 ?_;(try clear z0);intro N8 J8
    exact next _ _ _ _ _ ⟨G0.trans t2,B2,X2,T2_,D2⟩ F9 N8 J8
  · exfalso
    rename upd _ _ _ side≠_=>z9
    rename σ.home at_=side=>hne
    have hp9:=good_in good ha (hne ▸ hs)
    rw [hne] at hp9
    rw [upd_same] at z9
    omega
  · rename Fr _ _ _ _=>F9
    rename News _ _ _ _=>N9
    rename St _ _ _ _=>S9
    rename σ.home at_=side=>hne
    have hp9:=good_in good ha (hne ▸ hs)
    rw [hne] at hp9
    refine oe1 (lap_gen (lim:=σ.lim+18) (II.same S9 hdi hdz good (pts_set pts (by omega) (by omega))) N9 F9 (Nat.le_add_right _ _) rfl rfl rfl ⟨_,_,_,_,_,_,c1,c2,c3,c4,c5,c7⟩ c6 c8) ?_;intro news9 z0;refine oa2 z0 ?_;(try clear z0);intro N8 J8
    exact next _ _ _ _ _ ⟨G0,B,X,T,D⟩ F9 N8 J8
end Z3
theorem h_75:∀ j,j<75→∀ u,Pf j u:=histS 74 h_74 (gen 74 h_74 (by with_unfolding_all exact Z3.c_way_5))
theorem way_5 {body:List PySem.Stmt} {w:World} {dp un:Nat} {gd:Option (List Code)} {cs:Scope} {a:Addr} {A₀:Around} {base:Heap} {p:Program} {loose:List Str} {mean:ExcName→Option Value} {mg mb:Str→Option Value} {L I:Nat} {oI:Obj} {A:Ad} {s:Shared} {R:Result→Shared→Prop} {P:Flow→Shared→Prop} {dl bl ow sp:Addr} {h₀:Heap} {σ:Sg} {hl:Addr} {x:Int→Addr} {u u':Int→Tok} {S T1 T2:Led} {dv:List Value} {dn:List Int} {nd nb no ns nh:Nat} {s0 s1:Tok} {r:Str→Option Value} {o1 o2 o3 o4 o5 o6 o7 o8:Obj} {v3 v4 v5:Option Value} {at_ side:Int} {ta tb ts:Tok} : P_way_5 w dp un gd a A₀ base p loose mean mg mb L I oI A s R P dl bl ow sp h₀ σ hl x u u' S T1 T2 dv dn nd nb no ns nh s0 s1 r o1 o2 o3 o4 o5 o6 o7 o8 v3 v4 v5 at_ side ta tb ts body cs:=by with_unfolding_all exact h_75 74 (Nat.lt_succ_self 74) (sk0 |>.set 1 0 w |>.set 12 7 dp |>.set 12 8 un |>.set 42 0 gd |>.set 6 14 a |>.set 2 2 A₀ |>.set 5 2 base |>.set 0 1 p |>.set 35 1 loose |>.set 41 0 mean |>.set 7 4 mg |>.set 7 5 mb |>.set 12 19 L |>.set 12 20 I |>.set 16 7 oI |>.set 25 0 A |>.set 4 0 s |>.set 49 0 R |>.set 63 0 P |>.set 6 22 dl |>.set 6 18 bl |>.set 6 20 ow |>.set 6 19 sp |>.set 5 0 h₀ |>.set 28 0 σ |>.set 6 21 hl |>.set 60 0 x |>.set 61 0 u |>.set 61 1 u' |>.set 22 4 S |>.set 22 6 T1 |>.set 22 7 T2 |>.set 23 6 dv |>.set 24 2 dn |>.set 12 21 nd |>.set 12 13 nb |>.set 12 15 no |>.set 12 14 ns |>.set 12 16 nh |>.set 14 26 s0 |>.set 14 27 s1 |>.set 7 8 r |>.set 16 8 o1 |>.set 16 9 o2 |>.set 16 10 o3 |>.set 16 11 o4 |>.set 16 12 o5 |>.set 16 13 o6 |>.set 16 14 o7 |>.set 16 15 o8 |>.set 38 5 v3 |>.set 38 6 v4 |>.set 38 7 v5 |>.set 15 3 at_ |>.set 15 24 side |>.set 14 32 ta |>.set 14 14 tb |>.set 14 33 ts) body cs
theorem e101_1:True:=trivial
end
end Mine
namespace Mine
section
theorem kw102_1:True:=by
  k_with "setItem ref int" => ((fail_if_success have:=@e102_1);k_here;(with_reducible show wpAny _ _ (setItem (Value.ref _) (Value.int _ _) (Value.int _ _)) _ _ _);k_dflt (refine' set_spots (f:=Sg.point _) ?F ?N ?hj ?U ?_;(case F=>k_asm);(case N=>k_asm);(case hj=>first | assumption | decide);(case U=>k_upd);k_whole);intro h' F' N';(try dsimp only [List.nil_append,List.cons_append] at N'))
  k_with "subscriptTail" => ((fail_if_success have:=@e102_1);k_here;k_dflt (first | ((with_reducible show wpAny _ _ (subscriptTail _ _ (Value.ref _) (Value.int 0 _)) _ _ _);refine' sub_row0 ?N ?o ?l ?l0 ?l1 ?l2 ?l3 ?_ ?s ?t;(case N=>k_asm);(case o=>assumption);(case l=>assumption);(case l0=>k_mem);(case l1=>k_mem);(case l2=>k_mem);(case l3=>k_mem);k_extra "tl") | ((with_reducible show wpAny _ _ (subscriptTail _ _ (Value.ref _) (Value.int 1 _)) _ _ _);refine' sub_row1 ?N ?o ?l ?l0 ?l1 ?l2 ?l3 ?_ ?s ?t;(case N=>k_asm);(case o=>assumption);(case l=>assumption);(case l0=>k_mem);(case l1=>k_mem);(case l2=>k_mem);(case l3=>k_mem);k_extra "tl")))
  k_with "eval Lambda" => ((fail_if_success have:=@e102_1);k_here;refine Halt.intro ?_)
  k_with "call ref" => ((fail_if_success have:=@e102_1);k_here;(with_reducible show wpAny _ _ (call (Value.ref 527) _) _ _ _);refine Halt.intro ?_)
  k_with "call ref" => ((fail_if_success have:=@e102_1);k_here;(with_reducible show wpAny _ _ (call (Value.ref 83) _) _ _ _);k_dflt (refine' Spec.useC (ledx:=[]) (st_region ?y0 ?y1 ?y2 _ ?hS) ?B ?F ?X ?N ?C ?P ?hr ?T ?hk ?hd ?hu ?_;k_extra "us2";(case y0=>assumption);(case y1=>assumption);(case y2=>decide);(case hr=>k_extra "h1");k_whole);intro v9 led9 h' tk' hP9;refine oe4 hP9 ?_;(try clear hP9);intro D9 t9a t9b l9 z0;refine oa4 z0 ?_;(try clear z0);intro hv9 hl9 hD9 hS9;subst hv9;subst hl9;intro F' N';(replace N':=reorder (a:=[_]) N');k_extra "nn")
  k_with "call ref" => ((fail_if_success have:=@e102_1);k_here;(with_reducible show wpAny _ _ (call (Value.ref 90) _) _ _ _);k_dflt (refine' Spec.useC (ledx:=[]) (st_exch ?y0 ?y1 ?y2 ?y3 _ ?hS) ?B ?F ?X ?N ?C ?P ?hr ?T ?hk ?hd ?hu ?_;(case B=>k_asm);(case F=>k_asm);(case X=>k_asm);(case hS=>assumption);(case N=>exact News.sub ‹_› (fun q hq=>List.mem_cons_of_mem _ (List.mem_cons_of_mem _ hq)));(case C=>(repeat' first | exact Cut.here | refine' Cut.step ?_));k_extra "pk";k_extra "us5";(case y0=>assumption);(case y1=>assumption);(case y2=>assumption);(case y3=>assumption);(case hr=>(repeat' first | exact Off.nil | assumption | exact fresh_na2 ‹_› ‹_› | exact Away.ni ‹_› (by k_extra "mem") | exact Off.none | (refine' Off.append ?_ ?_) | exact Off.sub ‹_› (by k_extra "sb") | refine' Off.cons ?_ ?_ | exact ni_nil | refine' ni_cons ?_ ?_ | k_ne));k_whole);intro v9 led9 h' tk' hP9;refine oe1 hP9 ?_;(try clear hP9);intro σ9 z0;refine oa2 z0 ?_;(try clear z0);intro z31 hS9;refine oa2 z31 ?_;(try clear z31);intro hv9 hσ9;subst hv9;intro F' N';rw [hσ9] at hS9;clear hσ9;(replace N':=reorder (a:=[]) N');k_extra "nn")
  k_with "call ref" => ((fail_if_success have:=@e102_1);k_here;(with_reducible show wpAny _ _ (call (Value.ref 83) _) _ _ _);k_dflt (refine' SpecR.use (r_region0 ?y0 _ ?hS) ?B ?F ?X ?N ?k ?T ?hk ?hd ?hu ?_;(case y0=>assumption);(case hS=>assumption);k_extra "us4";(case k=>(k_extra "opq"));k_extra "us5";k_whole);intro G9 e9 d9 od9 h' tk' FG9 U9 S9 R9;(try dsimp only))
  k_with "call ref" => ((fail_if_success have:=@e102_1);k_here;(with_reducible show wpAny _ _ (call (Value.ref 83) _) _ _ _);k_dflt (refine' SpecR.use (r_region1 ?y0 ?y1 _ ?hS) ?B ?F ?X ?N ?k ?T ?hk ?hd ?hu ?_;(case y0=>assumption);(case y1=>assumption);(case hS=>assumption);k_extra "us4";(case k=>(k_extra "opq"));k_extra "us5";k_whole);intro G9 e9 d9 od9 h' tk' FG9 U9 S9 R9;(try dsimp only))
  k_with "call ref" => ((fail_if_success have:=@e102_1);k_here;(with_reducible show wpAny _ _ (call (Value.ref 90) _) _ _ _);k_dflt (refine' SpecR.use (r_exch0 ?y0 _ ?hS) ?B ?F ?X ?N ?k ?T ?hk ?hd ?hu ?_;(case y0=>assumption);(case hS=>assumption);k_extra "us4";(case k=>(k_extra "opq"));k_extra "us5";k_whole);intro G9 e9 d9 od9 h' tk' FG9 U9 S9 R9;(try dsimp only))
  k_with "call ref" => ((fail_if_success have:=@e102_1);k_here;(with_reducible show wpAny _ _ (call (Value.ref 90) _) _ _ _);k_dflt (refine' SpecR.use (r_exch1 ?y0 ?y1 _ ?hS) ?B ?F ?X ?N ?k ?T ?hk ?hd ?hu ?_;(case y0=>assumption);(case y1=>assumption);(case hS=>assumption);k_extra "us4";(case k=>(k_extra "opq"));k_extra "us5";k_whole);intro G9 e9 d9 od9 h' tk' FG9 U9 S9 R9;(try dsimp only))
  trivial
namespace Z3
theorem c_way_6:∀ body cs,P_way_6 w dp un gd a A₀ base p loose mean mg mb L I oI A s R P dl bl ow sp h₀ σ hl x u u' S T1 T2 dv dn nd nb no ns nh s0 s1 r o1 o2 o3 o4 o5 o6 o7 o8 v3 v4 v5 at_ side (k14 32) (k14 14) ts body cs:=by
  intro body cs hb XB TB C1 C2 hc hd hu G II hlim ha hs F N c1 c2 c3 c4 c5 c6 c7 c8 next
  cases hb
  cases hc
  dsimp only
  have II0:=II
  refine and17 (II.ne_hl) ?_;intro e_hl_0 e_hl_1 e_hl_2 e_hl_3 e_hl_4 e_hl_5 e_hl_6 e_hl_7 e_hl_8 e_hl_9 e_hl_10 e_hl_11 e_hl_12 e_hl_13 e_hl_14 e_hl_15 e_hl_16
  refine and17 (II.ne_sp) ?_;intro e_sp_0 e_sp_1 e_sp_2 e_sp_3 e_sp_4 e_sp_5 e_sp_6 e_sp_7 e_sp_8 e_sp_9 e_sp_10 e_sp_11 e_sp_12 e_sp_13 e_sp_14 e_sp_15 e_sp_16
  obtain ⟨ok,hS,hT1,hT2,hdi,hdz,good,pts,lo,lI,lt,na,tt,tn,dis,dix⟩:=II0
  refine oa5 G ?_;(try clear G);intro G0 B X T D
  refine oa8 dis ?_;(try clear dis);intro dis1 dis2 dis3 dis4 dis5 dis6 dis7 z0;refine oa2 z0 ?_;(try clear z0);intro dis8 dis9
  have tsp:TupSpec x σ.home σ.pos u u':=⟨trivial⟩
  have nadl:=na dl (by k_extra "mem")
  have nabl:=na bl (by k_extra "mem")
  have naow:=na ow (by k_extra "mem")
  have nasp:=na sp (by k_extra "mem")
  have nahl:=na hl (by k_extra "mem")
  have nax0:=na (x 0) (by k_extra "mem")
  have nax1:=na (x 1) (by k_extra "mem")
  have nax2:=na (x 2) (by k_extra "mem")
  have nax3:=na (x 3) (by k_extra "mem")
  have naI:I ∉ A.all:=fun h=>(lo I (List.mem_append.mpr (.inr h))).2 rfl
  have nac1:L+1 ∉ A.all:=fun h=>cell_lt (k:=1) (by decide) (lo (L+1) (List.mem_append.mpr (.inr h))).1 rfl
  have nac2:L+1+1 ∉ A.all:=fun h=>cell_lt (k:=2) (by decide) (lo (L+1+1) (List.mem_append.mpr (.inr h))).1 rfl
  have nac3:L+1+1+1 ∉ A.all:=fun h=>cell_lt (k:=3) (by decide) (lo (L+1+1+1) (List.mem_append.mpr (.inr h))).1 rfl
  have nac4:L+1+1+1+1 ∉ A.all:=fun h=>cell_lt (k:=4) (by decide) (lo (L+1+1+1+1) (List.mem_append.mpr (.inr h))).1 rfl
  have nac5:L+1+1+1+1+1 ∉ A.all:=fun h=>cell_lt (k:=5) (by decide) (lo (L+1+1+1+1+1) (List.mem_append.mpr (.inr h))).1 rfl
  have nac6:L+1+1+1+1+1+1 ∉ A.all:=fun h=>cell_lt (k:=6) (by decide) (lo (L+1+1+1+1+1+1) (List.mem_append.mpr (.inr h))).1 rfl
  have nac7:L+1+1+1+1+1+1+1 ∉ A.all:=fun h=>cell_lt (k:=7) (by decide) (lo (L+1+1+1+1+1+1+1) (List.mem_append.mpr (.inr h))).1 rfl
  have nac8:L+1+1+1+1+1+1+1+1 ∉ A.all:=fun h=>cell_lt (k:=8) (by decide) (lo (L+1+1+1+1+1+1+1+1) (List.mem_append.mpr (.inr h))).1 rfl
  have fc1:∀ q∈T1++T2,@Ne Nat q.1 (L+1):=fun q hq=>fcell (k:=1) lt (tt q hq).2.1 (by decide)
  have fc2:∀ q∈T1++T2,@Ne Nat q.1 (L+1+1):=fun q hq=>fcell (k:=2) lt (tt q hq).2.1 (by decide)
  have fc3:∀ q∈T1++T2,@Ne Nat q.1 (L+1+1+1):=fun q hq=>fcell (k:=3) lt (tt q hq).2.1 (by decide)
  have fc4:∀ q∈T1++T2,@Ne Nat q.1 (L+1+1+1+1):=fun q hq=>fcell (k:=4) lt (tt q hq).2.1 (by decide)
  have fc5:∀ q∈T1++T2,@Ne Nat q.1 (L+1+1+1+1+1):=fun q hq=>fcell (k:=5) lt (tt q hq).2.1 (by decide)
  have fc6:∀ q∈T1++T2,@Ne Nat q.1 (L+1+1+1+1+1+1):=fun q hq=>fcell (k:=6) lt (tt q hq).2.1 (by decide)
  have fc7:∀ q∈T1++T2,@Ne Nat q.1 (L+1+1+1+1+1+1+1):=fun q hq=>fcell (k:=7) lt (tt q hq).2.1 (by decide)
  have fc8:∀ q∈T1++T2,@Ne Nat q.1 (L+1+1+1+1+1+1+1+1):=fun q hq=>fcell (k:=8) lt (tt q hq).2.1 (by decide)
  have fdl:∀ q∈T1++T2,@Ne Nat q.1 dl:=fun q hq=>(tt q hq).2.2.1
  have fsp:∀ q∈T1++T2,@Ne Nat q.1 sp:=fun q hq=>(tt q hq).2.2.2.1
  have fhl:∀ q∈T1++T2,@Ne Nat q.1 hl:=fun q hq=>(tt q hq).2.2.2.2.1
  have offT:Off A.all (T1++T2):=fun q hq=>(tt q hq).1
  have oodl:Off [dl] (T1++T2):=fun q hq h=>fdl q hq (List.mem_singleton.mp h)
  revert X;k_fill;intro X
  have hh9:=good_home good (show (3:Int)∈ids by decide)
  have hl9:σ.lim≤800:=by omega
  cases hm:σ.marked with
  | false =>
    have em:σ.mark A 0=.none:=by rw [Sg.mark,if_pos rfl,hm];rfl
    k_steps
    · unfold Halt
      rename Fr _ _ _ _=>F9
      rename News _ _ _ _=>N9
      rw [← List.append_nil T2] at N9
      refine' lam_makeN (c:=543) (P:=541) (Tl:=T2) (qual:=(ofString "law.<locals>.<lambda>")) ?F ?N ?c ?T ?C ?cd ?hT ?hr ?df ?q ?cl ?_
      (case F=>exact F9)
      (case N=>exact N9)
      (case c=>(repeat' first | exact CutA.here | refine' CutA.step ?_ | refine' CutA.app ?_))
      (case T=>exact T)
      (case C=>exact C2.keeps B.stays)
      (case cd=>rfl)
      (case hT=>exact hT2)
      (case hr =>
        refine and19 (II.low lt.2) ?_;intro n_I n8 n7 n6 n5 n4 n3 n2 n1 n_dl n_bl n_ow n_sp n_hl n_x0 n_x1 n_x2 n_x3 n_S
        exact (by repeat' first | exact ne_nl | assumption | exact II.tn.1 | refine ne_app ?_ ?_ | refine ne_con ?_ ?_))
      (case df=>rfl)
      (case q=>rfl)
      (case cl=>rfl)
      intro f9 c9 ctv9 pm9 T2' h' tk' hT2' F' N' hcode hlt9 hnew9
      clear F9 N9
      simp only [List.cons_append,List.nil_append,List.append_assoc,List.append_nil] at N' hlt9 hnew9
      k_steps
      unfold Halt
      rename Fr _ _ _ _=>F9
      rename News _ _ _ _=>N9
      refine' x_refusedN (dz:=14) ?B ?F ?X ?N ?T ?XB ?TB ?D ?hfn ?hfo ?S ?hk ?hd ?hu ?_
      (case B=>exact B)
      (case F=>exact F9)
      (case X=>exact X)
      (case N=>exact N9)
      (case T=>exact T)
      (case XB=>exact XB)
      (case TB=>exact TB)
      (case D=>exact D)
      (case hfn=>exact .head _)
      (case hfo=>exact rfl)
      (case hk=>exact rfl)
      (case hd=>ktr_room)
      (case hu=>ktr_units)
      case S =>
        intro p2 loose2 mean2 mg2 mb2 dp2 un2 gd2 cn2 cs2 a2 ccd2 cl2 outer2 A2 base2 h2 L2 m2 rest2 s2 Q2 E2 B F X N Tp hk hd hu ret2
        refine wpAny_call (kla_code B F X N Tp rfl rfl hk (.head _) ?_ (show dp2<recursionLimit by omega) rfl (by intro y hy;cases hy) ?_ rfl rfl rfl ?_)
        · refine oe3 hcode ?_;(try clear hcode);intro oc vs t z0;refine oa3 z0 ?_;(try clear z0);intro z1 z2 z3
          exact ⟨c9,oc,vs,t,rfl,(N (c9,oc) ((by k_extra "opq" : ∀ p∈T2',p∈_) _ z1)).1,z2,z3⟩
        · intro g3 L3 h3 FG3 F3 N3 B3 X3 T3
          simp only [List.cons_append,List.nil_append,List.append_assoc] at N3
          k_steps
          rename RaisedD _ _ _ _ _ _ _=>R9
          rename Heap.UpToSlots _ _=>U9
          rename SymOk _=>S9
          rename Fr _ _ _ _=>FG9
          refine' raised_on ?K ?F ?hf ?R ?U ?_
          (case K=>exact B3)
          (case F=>exact FG9)
          (case hf=>exact rfl)
          (case R=>exact R9)
          (case U=>exact U9)
          intro h9 R8 U8
          exact ret2 _ _ _ _ h9 _ FG3 U8 S9 (R8.sub fun q hq=>by simpa only [List.cons_append,List.nil_append,List.append_assoc] using hq)
        · decide
      intro h₀2 h2 tk2 t2 F' N' B2 X2 T2_ D2
      clear F9 N9
      k_steps
      rename Fr _ _ _ _=>F9
      rename News _ _ _ _=>N9
      have II2:=II.tab2 hT2' (fun q hq=>hq) hnew9
      have N8:=News.sub N9 fun q hq=>List.mem_cons_of_mem _ hq
      clear N9
      have B:=B2
      have X:=X2
      have T:=T2_
      have D:=D2
      have G0:=G0.trans t2
      unfold Halt
      rename Fr _ _ _ _=>F9
      rename News _ _ _ _=>N9
      rw [← List.append_nil T2'] at N9
      refine' lam_makeN (c:=543) (P:=541) (Tl:=T2') (qual:=(ofString "law.<locals>.<lambda>")) ?F ?N ?c ?T ?C ?cd ?hT ?hr ?df ?q ?cl ?_
      (case F=>exact F9)
      (case N=>exact N9)
      (case c=>(repeat' first | exact CutA.here | refine' CutA.step ?_ | refine' CutA.app ?_))
      (case T=>exact T)
      (case C=>exact C2.keeps B.stays)
      (case cd=>rfl)
      (case hT=>exact hT2')
      (case hr =>
        refine and19 (II2.low lt.2) ?_;intro n_I n8 n7 n6 n5 n4 n3 n2 n1 n_dl n_bl n_ow n_sp n_hl n_x0 n_x1 n_x2 n_x3 n_S
        exact (by repeat' first | exact ne_nl | assumption | exact II2.tn.1 | refine ne_app ?_ ?_ | refine ne_con ?_ ?_))
      (case df=>rfl)
      (case q=>rfl)
      (case cl=>rfl)
      intro f9 c9 ctv9 pm9 T2'' h' tk' hT2'' F' N' hcode hlt9 hnew9
      clear F9 N9
      simp only [List.cons_append,List.nil_append,List.append_assoc,List.append_nil] at N' hlt9 hnew9
      k_steps
      unfold Halt
      rename Fr _ _ _ _=>F9
      rename News _ _ _ _=>N9
      refine' x_refusedN (dz:=14) ?B ?F ?X ?N ?T ?XB ?TB ?D ?hfn ?hfo ?S ?hk ?hd ?hu ?_
      (case B=>exact B)
      (case F=>exact F9)
      (case X=>exact X)
      (case N=>exact N9)
      (case T=>exact T)
      (case XB=>exact XB)
      (case TB=>exact TB)
      (case D=>exact D)
      (case hfn=>exact .head _)
      (case hfo=>exact rfl)
      (case hk=>exact rfl)
      (case hd=>ktr_room)
      (case hu=>ktr_units)
      case S =>
        intro p2 loose2 mean2 mg2 mb2 dp2 un2 gd2 cn2 cs2 a2 ccd2 cl2 outer2 A2 base2 h2 L2 m2 rest2 s2 Q2 E2 B F X N Tp hk hd hu ret2
        refine wpAny_call (kla_code B F X N Tp rfl rfl hk (.head _) ?_ (show dp2<recursionLimit by omega) rfl (by intro y hy;cases hy) ?_ rfl rfl rfl ?_)
        · refine oe3 hcode ?_;(try clear hcode);intro oc vs t z0;refine oa3 z0 ?_;(try clear z0);intro z1 z2 z3
          exact ⟨c9,oc,vs,t,rfl,(N (c9,oc) ((by k_extra "opq" : ∀ p∈T2'',p∈_) _ z1)).1,z2,z3⟩
        · intro g3 L3 h3 FG3 F3 N3 B3 X3 T3
          simp only [List.cons_append,List.nil_append,List.append_assoc] at N3
          k_steps
          rename RaisedD _ _ _ _ _ _ _=>R9
          rename Heap.UpToSlots _ _=>U9
          rename SymOk _=>S9
          rename Fr _ _ _ _=>FG9
          refine' raised_on ?K ?F ?hf ?R ?U ?_
          (case K=>exact B3)
          (case F=>exact FG9)
          (case hf=>exact rfl)
          (case R=>exact R9)
          (case U=>exact U9)
          intro h9 R8 U8
          exact ret2 _ _ _ _ h9 _ FG3 U8 S9 (R8.sub fun q hq=>by simpa only [List.cons_append,List.nil_append,List.append_assoc] using hq)
        · decide
      intro h₀3 h3 tk3 t3 F' N' B3 X3 T3_ D3
      clear F9 N9
      k_steps
      rename Fr _ _ _ _=>F9
      rename News _ _ _ _=>N9
      have II3:=II2.tab2 hT2'' (fun q hq=>hq) hnew9
      refine oe1 (lap_gen (lim:=σ.lim+18) II3 (News.sub N9 fun q hq=>.tail _ hq) F9 (Nat.le_add_right _ _) rfl rfl rfl ⟨_,_,_,_,_,_,c1,c2,c3,c4,c5,c7⟩ c6 c8) ?_;intro news9 z0;refine oa2 z0 ?_;(try clear z0);intro N8 J8
      exact next _ _ _ _ _ ⟨G0.trans t3,B3,X3,T3_,D3⟩ F9 N8 J8
    · refine oe1 (lap_gen (lim:=σ.lim+18) II N F (Nat.le_add_right _ _) rfl rfl rfl ⟨_,_,_,_,_,_,c1,c2,c3,c4,c5,c7⟩ c6 c8) ?_;intro news9 z0;refine oa2 z0 ?_;(try clear z0);intro N8 J8
      exact next _ _ _ _ _ ⟨G0,B,X,T,D⟩ F N8 J8
  | true =>
    have em:σ.mark A 0=.ref (A.ma 3):=by rw [Sg.mark,if_pos rfl,if_pos hm]
    k_steps
    · rename σ.home 3<0=>z9
      have e3:σ.home 3=-1:=by
        rcases hh9 with h | h
        · exact h
        · have:=sides_iff.mp h;omega
      unfold Halt
      rename Fr _ _ _ _=>F9
      rename News _ _ _ _=>N9
      rw [← List.append_nil T2] at N9
      refine' lam_makeN (c:=543) (P:=541) (Tl:=T2) (qual:=(ofString "law.<locals>.<lambda>")) ?F ?N ?c ?T ?C ?cd ?hT ?hr ?df ?q ?cl ?_
      (case F=>exact F9)
      (case N=>exact N9)
      (case c=>(repeat' first | exact CutA.here | refine' CutA.step ?_ | refine' CutA.app ?_))
      (case T=>exact T)
      (case C=>exact C2.keeps B.stays)
      (case cd=>rfl)
      (case hT=>exact hT2)
      (case hr =>
        refine and19 (II.low lt.2) ?_;intro n_I n8 n7 n6 n5 n4 n3 n2 n1 n_dl n_bl n_ow n_sp n_hl n_x0 n_x1 n_x2 n_x3 n_S
        exact (by repeat' first | exact ne_nl | assumption | exact II.tn.1 | refine ne_app ?_ ?_ | refine ne_con ?_ ?_))
      (case df=>rfl)
      (case q=>rfl)
      (case cl=>rfl)
      intro f9 c9 ctv9 pm9 T2' h' tk' hT2' F' N' hcode hlt9 hnew9
      clear F9 N9
      simp only [List.cons_append,List.nil_append,List.append_assoc,List.append_nil] at N' hlt9 hnew9
      k_steps
      unfold Halt
      rename Fr _ _ _ _=>F9
      rename News _ _ _ _=>N9
      refine' x_refusedN (dz:=14) ?B ?F ?X ?N ?T ?XB ?TB ?D ?hfn ?hfo ?S ?hk ?hd ?hu ?_
      (case B=>exact B)
      (case F=>exact F9)
      (case X=>exact X)
      (case N=>exact N9)
      (case T=>exact T)
      (case XB=>exact XB)
      (case TB=>exact TB)
      (case D=>exact D)
      (case hfn=>exact .head _)
      (case hfo=>exact rfl)
      (case hk=>exact rfl)
      (case hd=>ktr_room)
      (case hu=>ktr_units)
      case S =>
        intro p2 loose2 mean2 mg2 mb2 dp2 un2 gd2 cn2 cs2 a2 ccd2 cl2 outer2 A2 base2 h2 L2 m2 rest2 s2 Q2 E2 B F X N Tp hk hd hu ret2
        refine wpAny_call (kla_code B F X N Tp rfl rfl hk (.head _) ?_ (show dp2<recursionLimit by omega) rfl (by intro y hy;cases hy) ?_ rfl rfl rfl ?_)
        · refine oe3 hcode ?_;(try clear hcode);intro oc vs t z0;refine oa3 z0 ?_;(try clear z0);intro z1 z2 z3
          exact ⟨c9,oc,vs,t,rfl,(N (c9,oc) ((by k_extra "opq" : ∀ p∈T2',p∈_) _ z1)).1,z2,z3⟩
        · intro g3 L3 h3 FG3 F3 N3 B3 X3 T3
          simp only [List.cons_append,List.nil_append,List.append_assoc] at N3
          k_steps
          rename RaisedD _ _ _ _ _ _ _=>R9
          rename Heap.UpToSlots _ _=>U9
          rename SymOk _=>S9
          rename Fr _ _ _ _=>FG9
          refine' raised_on ?K ?F ?hf ?R ?U ?_
          (case K=>exact B3)
          (case F=>exact FG9)
          (case hf=>exact rfl)
          (case R=>exact R9)
          (case U=>exact U9)
          intro h9 R8 U8
          exact ret2 _ _ _ _ h9 _ FG3 U8 S9 (R8.sub fun q hq=>by simpa only [List.cons_append,List.nil_append,List.append_assoc] using hq)
        · decide
      intro h₀2 h2 tk2 t2 F' N' B2 X2 T2_ D2
      clear F9 N9
      k_steps
      rename Fr _ _ _ _=>F9
      rename News _ _ _ _=>N9
      have II2:=II.tab2 hT2' (fun q hq=>hq) hnew9
      have N8:=News.sub N9 fun q hq=>List.mem_cons_of_mem _ hq
      clear N9
      have B:=B2
      have X:=X2
      have T:=T2_
      have D:=D2
      have G0:=G0.trans t2
      unfold Halt
      rename Fr _ _ _ _=>F9
      rename News _ _ _ _=>N9
      rw [← List.append_nil T2'] at N9
      refine' lam_makeN (c:=543) (P:=541) (Tl:=T2') (qual:=(ofString "law.<locals>.<lambda>")) ?F ?N ?c ?T ?C ?cd ?hT ?hr ?df ?q ?cl ?_
      (case F=>exact F9)
      (case N=>exact N9)
      (case c=>(repeat' first | exact CutA.here | refine' CutA.step ?_ | refine' CutA.app ?_))
      (case T=>exact T)
      (case C=>exact C2.keeps B.stays)
      (case cd=>rfl)
      (case hT=>exact hT2')
      (case hr =>
        refine and19 (II2.low lt.2) ?_;intro n_I n8 n7 n6 n5 n4 n3 n2 n1 n_dl n_bl n_ow n_sp n_hl n_x0 n_x1 n_x2 n_x3 n_S
        exact (by repeat' first | exact ne_nl | assumption | exact II2.tn.1 | refine ne_app ?_ ?_ | refine ne_con ?_ ?_))
      (case df=>rfl)
      (case q=>rfl)
      (case cl=>rfl)
      intro f9 c9 ctv9 pm9 T2'' h' tk' hT2'' F' N' hcode hlt9 hnew9
      clear F9 N9
      simp only [List.cons_append,List.nil_append,List.append_assoc,List.append_nil] at N' hlt9 hnew9
      k_steps
      unfold Halt
      rename Fr _ _ _ _=>F9
      rename News _ _ _ _=>N9
      refine' x_refusedN (dz:=14) ?B ?F ?X ?N ?T ?XB ?TB ?D ?hfn ?hfo ?S ?hk ?hd ?hu ?_
      (case B=>exact B)
      (case F=>exact F9)
      (case X=>exact X)
      (case N=>exact N9)
      (case T=>exact T)
      (case XB=>exact XB)
      (case TB=>exact TB)
      (case D=>exact D)
      (case hfn=>exact .head _)
      (case hfo=>exact rfl)
      (case hk=>exact rfl)
      (case hd=>ktr_room)
      (case hu=>ktr_units)
      case S =>
        intro p2 loose2 mean2 mg2 mb2 dp2 un2 gd2 cn2 cs2 a2 ccd2 cl2 outer2 A2 base2 h2 L2 m2 rest2 s2 Q2 E2 B F X N Tp hk hd hu ret2
        refine wpAny_call (kla_code B F X N Tp rfl rfl hk (.head _) ?_ (show dp2<recursionLimit by omega) rfl (by intro y hy;cases hy) ?_ rfl rfl rfl ?_)
        · refine oe3 hcode ?_;(try clear hcode);intro oc vs t z0;refine oa3 z0 ?_;(try clear z0);intro z1 z2 z3
          exact ⟨c9,oc,vs,t,rfl,(N (c9,oc) ((by k_extra "opq" : ∀ p∈T2'',p∈_) _ z1)).1,z2,z3⟩
        · intro g3 L3 h3 FG3 F3 N3 B3 X3 T3
          simp only [List.cons_append,List.nil_append,List.append_assoc] at N3
          k_steps
          rename RaisedD _ _ _ _ _ _ _=>R9
          rename Heap.UpToSlots _ _=>U9
          rename SymOk _=>S9
          rename Fr _ _ _ _=>FG9
          refine' raised_on ?K ?F ?hf ?R ?U ?_
          (case K=>exact B3)
          (case F=>exact FG9)
          (case hf=>exact rfl)
          (case R=>exact R9)
          (case U=>exact U9)
          intro h9 R8 U8
          exact ret2 _ _ _ _ h9 _ FG3 U8 S9 (R8.sub fun q hq=>by simpa only [List.cons_append,List.nil_append,List.append_assoc] using hq)
        · decide
      intro h₀3 h3 tk3 t3 F' N' B3 X3 T3_ D3
      clear F9 N9
      k_steps
      rename Fr _ _ _ _=>F9
      rename News _ _ _ _=>N9
      have II3:=II2.tab2 hT2'' (fun q hq=>hq) hnew9
      refine oe1 (lap_gen (lim:=σ.lim+18) II3 (News.sub N9 fun q hq=>.tail _ hq) F9 (Nat.le_add_right _ _) rfl rfl rfl ⟨_,_,_,_,_,_,c1,c2,c3,c4,c5,c7⟩ c6 c8) ?_;intro news9 z0;refine oa2 z0 ?_;(try clear z0);intro N8 J8
      exact next _ _ _ _ _ ⟨G0.trans t3,B3,X3,T3_,D3⟩ F9 N8 J8
    · refine oe1 (lap_gen (lim:=σ.lim+18) II N F (Nat.le_add_right _ _) rfl rfl rfl ⟨_,_,_,_,_,_,c1,c2,c3,c4,c5,c7⟩ c6 c8) ?_;intro news9 z0;refine oa2 z0 ?_;(try clear z0);intro N8 J8
      exact next _ _ _ _ _ ⟨G0,B,X,T,D⟩ F N8 J8
    all_goals (
      rename σ.home 3=0=>e0
      have p0:=pts 0 (by decide)
      have q3:=good_in good (show (3:Int)∈ids by decide) (by rw [e0];decide)
      rw [e0] at q3
      rename Fr _ _ _ _=>F9
      rename News _ _ _ _=>N9
      rename St _ _ _ _=>S9
      refine oe1 (lap_row2 (lim:=σ.lim+18) II S9 hdi hdz (News.sub N9 fun q hq=>List.mem_cons_of_mem _ hq) F9 ‹_› rfl (by show upd _ _ _=upd _ _ _;rw [show min (max (σ.point 0) 1) (σ.size 0+1)=σ.point 0 by omega]) (by show upd _ _ _=upd _ _ _;rw [show min (max (σ.pos 3) 1) (σ.size 0+1)=σ.pos 3 by omega]) (Nat.le_add_right _ _) (good_set good (.inr ⟨by decide,by omega,by omega⟩)) (pts_set pts (by omega) (by omega)) rfl rfl rfl ⟨_,_,_,_,_,_,c1,c2,c3,c4,c5,c7⟩ c6 c8) ?_;intro news9 z0;refine oa2 z0 ?_;(try clear z0);intro N8 J8
      exact next _ _ _ _ _ ⟨G0,B,X,T,D⟩ F9 N8 J8)
end Z3
theorem h_76:∀ j,j<76→∀ u,Pf j u:=histS 75 h_75 (gen 75 h_75 (by with_unfolding_all exact Z3.c_way_6))
theorem way_6 {body:List PySem.Stmt} {w:World} {dp un:Nat} {gd:Option (List Code)} {cs:Scope} {a:Addr} {A₀:Around} {base:Heap} {p:Program} {loose:List Str} {mean:ExcName→Option Value} {mg mb:Str→Option Value} {L I:Nat} {oI:Obj} {A:Ad} {s:Shared} {R:Result→Shared→Prop} {P:Flow→Shared→Prop} {dl bl ow sp:Addr} {h₀:Heap} {σ:Sg} {hl:Addr} {x:Int→Addr} {u u':Int→Tok} {S T1 T2:Led} {dv:List Value} {dn:List Int} {nd nb no ns nh:Nat} {s0 s1:Tok} {r:Str→Option Value} {o1 o2 o3 o4 o5 o6 o7 o8:Obj} {v3 v4 v5:Option Value} {at_ side:Int} {ta tb ts:Tok} : P_way_6 w dp un gd a A₀ base p loose mean mg mb L I oI A s R P dl bl ow sp h₀ σ hl x u u' S T1 T2 dv dn nd nb no ns nh s0 s1 r o1 o2 o3 o4 o5 o6 o7 o8 v3 v4 v5 at_ side ta tb ts body cs:=by with_unfolding_all exact h_76 75 (Nat.lt_succ_self 75) (sk0 |>.set 1 0 w |>.set 12 7 dp |>.set 12 8 un |>.set 42 0 gd |>.set 6 14 a |>.set 2 2 A₀ |>.set 5 2 base |>.set 0 1 p |>.set 35 1 loose |>.set 41 0 mean |>.set 7 4 mg |>.set 7 5 mb |>.set 12 19 L |>.set 12 20 I |>.set 16 7 oI |>.set 25 0 A |>.set 4 0 s |>.set 49 0 R |>.set 63 0 P |>.set 6 22 dl |>.set 6 18 bl |>.set 6 20 ow |>.set 6 19 sp |>.set 5 0 h₀ |>.set 28 0 σ |>.set 6 21 hl |>.set 60 0 x |>.set 61 0 u |>.set 61 1 u' |>.set 22 4 S |>.set 22 6 T1 |>.set 22 7 T2 |>.set 23 6 dv |>.set 24 2 dn |>.set 12 21 nd |>.set 12 13 nb |>.set 12 15 no |>.set 12 14 ns |>.set 12 16 nh |>.set 14 26 s0 |>.set 14 27 s1 |>.set 7 8 r |>.set 16 8 o1 |>.set 16 9 o2 |>.set 16 10 o3 |>.set 16 11 o4 |>.set 16 12 o5 |>.set 16 13 o6 |>.set 16 14 o7 |>.set 16 15 o8 |>.set 38 5 v3 |>.set 38 6 v4 |>.set 38 7 v5 |>.set 15 3 at_ |>.set 15 24 side |>.set 14 32 ta |>.set 14 14 tb |>.set 14 33 ts) body cs
theorem e102_1:True:=trivial
end
end Mine
namespace Mine
open PyProof.V PyProof.Rows.LCg
section
variable {prog:Program} {w:World} {A:Around} {E:Value→Shared→Prop} {s:Shared} {env:Env} {h₀:Heap} {L:Addr}
end
section
namespace Z0
theorem c_compP:∀ A a P St,P_compP (k0 0) w E s env h₀ L (k8 3) (k8 4) b (k56 1) (k56 2) (k56 3) (k12 12) (k43 1) cl (k56 0) m news (k65 0) I fp wr n (k54 1) (k58 0) Lo J A a P St:=by
  intro A a P St W hh hP hself hLf hfp hfp0 hwr hLo hlo hst hz F N hcell hkind hxa hxb hab J0 step done
  refine wpAny_newObj_type (wpAny_newFunctionEnv hcell (by intro y hy;simp at hy) (fun h₁ hns₁ hsb₁=>?_) hkind)
  dsimp only at hns₁ hsb₁ ⊢
  generalize hH2:s.heap.push { cls:=.type "list",dict:=none,data:=.seq ([] : List Value).toArray }=H2 at hns₁ hsb₁ ⊢
  have hC:H2.objs.size=s.heap.objs.size+1:=by rw [← hH2,Heap.size_push]
  have hDC:s.heap.objs.size≠H2.objs.size:=by rw [hC];exact Nat.ne_of_lt (Nat.lt_succ_self _)
  have hDlt:s.heap.objs.size<H2.objs.size:=by rw [hC];exact Nat.lt_succ_self _
  have below:∀ b,b<s.heap.objs.size→b≠H2.objs.size∧b≠s.heap.objs.size:=fun b hb=>⟨by rw [hC];exact Nat.ne_of_lt (Nat.lt_succ_of_lt hb),Nat.ne_of_lt hb⟩
  have old:∀ b o,s.heap.get? b=some o→h₁.get? b=some o:=fun b o e=>hsb₁.extBut b o (below b (Heap.lt_size e)).1 (Heap.get?_push_of_some _ (hH2 ▸ Heap.get?_push_of_some _ e))
  have hacc:h₁.get? s.heap.objs.size=some (lst []):=hsb₁.extBut _ _ hDC (Heap.get?_push_of_some _ (hH2 ▸ Heap.get?_push_size _ rfl))
  have hst₁:St 0 h₁:=W.frame _ _ _ hst fun b _ o e=>old b o e
  have fresh₀:∀ b:Nat,s.heap.objs.size≤b→h₀.get? b=none:=fun b hb=>kts_none F.keep (Heap.get?_none_of_le hb)
  have hD₀:h₀.get? s.heap.objs.size=none:=fresh₀ _ (Nat.le_refl _)
  have hC₀:h₀.get? H2.objs.size=none:=fresh₀ _ (by rw [hC];exact Nat.le_succ _)
  have hLlt:L<s.heap.objs.size:=F.ns.lt
  have hDL:s.heap.objs.size≠L:=Ne.symm (below L hLlt).2
  have hCL:H2.objs.size≠L:=Ne.symm (below L hLlt).1
  have fD:s.heap.objs.size ∉ fp:=fun h=>absurd (hfp _ h) (Nat.lt_irrefl _)
  have fC:H2.objs.size ∉ fp:=fun h=>absurd (hfp _ h) (by rw [hC];exact Nat.not_lt.mpr (Nat.le_succ _))
  have wD:s.heap.objs.size ∉ wr:=fun h=>fD (W.sub _ h)
  have wC:H2.objs.size ∉ wr:=fun h=>fC (W.sub _ h)
  have wL:L ∉ wr:=fun h=>hLf (W.sub _ h)
  have ap:∀ nw:Led,(∀ p∈nw,@LT.lt Nat _ p.1 Lo∨@LT.lt Nat _ H2.objs.size p.1)→∀ p∈nw,p.1 ∉ wr∧p.1≠s.heap.objs.size∧p.1≠H2.objs.size:=fun nw h p hp=>by
    have h1:=h p hp
    refine ⟨fun hm=>?_,fun e=>?_,fun e=>?_⟩
    · have h2:=hwr _ hm
      omega
    · rw [show p.1=s.heap.objs.size from e] at h1
      rcases h1 with z | z
      · exact absurd z (Nat.not_lt.mpr hLo)
      · exact Nat.lt_irrefl _ (Nat.lt_trans hDlt z)
    · rw [show p.1=H2.objs.size from e] at h1
      rcases h1 with z | z
      · exact absurd z (Nat.not_lt.mpr (Nat.le_trans hLo (Nat.le_of_lt hDlt)))
      · exact Nat.lt_irrefl _ z
  have wold:∀ b o,h₀.get? b=some o→b ∉ wr:=fun b o e hb=>by rw [hfp0 _ (W.sub _ hb)] at e;cases e
  have loop:∀ s₃:Shared,s₃={ s with heap:=h₁,toks:=s.toks+([] : List (Str × Value)).length } →
      codeAny (model (k0 0) w) A (.compLoop (.ListComp (k8 3) [⟨.Tuple [.Name a (k56 1),.Name b (k56 2)] (k12 12) (k56 3),(k8 4),[],0⟩] (k43 1) (k56 0)) 0 (.ref I) (.ref s.heap.objs.size) (compEnvC (k43 1) cl H2.objs.size env))
        ((k65 0) (.ref s.heap.objs.size) H2.objs.size) s₃:=by
    rintro s₃ rfl
    refine kcp_loop
      (fun k s'=>∃ h' tk i zs m' nw,s'={ s with heap:=h',toks:=tk }∧i≤n∧k=n+1-i∧zs.length=i∧St i h'∧Fr h₀ L h' m∧h'.Ns H2.objs.size m'∧News h₀ L h' ((s.heap.objs.size,lst zs)::nw)∧(∀ p∈nw,@LT.lt Nat _ p.1 Lo∨@LT.lt Nat _ H2.objs.size p.1)∧J i zs nw) ?_ (n+1)
      ⟨h₁,_,0,[],_,news,rfl,Nat.zero_le _,rfl,rfl,hst₁,F.keeps old,hns₁,fun p hp=>?_,fun p hp=>.inl (hlo p hp),J0⟩
    · rintro k s' ⟨h',tk,i,zs,m',nw,rfl,hi,rfl,hyl,hst',F',hn',N',hnw,hJ⟩
      have D':=N' _ List.mem_cons_self
      have Nn:News h₀ L h' nw:=fun q hq=>N' q (List.mem_cons_of_mem _ hq)
      have apn:=ap nw hnw
      by_cases hlt:i<n
      · refine W.item i _ _ _ hlt hst' fun v h₂ tk₂ hMd hk₂=>?_
        refine W.go i v _ _ _ hMd fun h₃ hP₃ hst₃ hk₃=>?_
        refine oe3 (hP _ _ _ hP₃) ?_;intro T x y z0;refine oa3 z0 ?_;(try clear z0);intro z32 hxy hT;obtain rfl:=z32
        have up₃:∀ c o,c ∉ wr→h'.get? c=some o→h₃.get? c=some o:=fun c o hc e=>hk₃ c o hc (hk₂ c o hc e)
        refine kcp_assign (env:=compEnvC (k43 1) cl H2.objs.size env) hh hT (lookup_relabel_local hxa) (lookup_relabel_local hxb) (by simp [compEnvC,relabel,hkind]) (hn'.at' fun o e=>up₃ _ o wC e) fun h₄ tk₄ hn₄ hs₄=>?_
        have up:∀ c o,c ∉ wr→c≠H2.objs.size→h'.get? c=some o→h₄.get? c=some o:=fun c o h1 h2 e=>hs₄ c o h2 (up₃ c o h1 e)
        have hst₄:St (i+1) h₄:=W.frame _ _ _ hst₃ fun b hb o e=>hs₄ b o (fun z=>fC ((show b=H2.objs.size from z) ▸ hb)) e
        refine oe1 (ns_obj hn₄) ?_;intro oC z0;refine oa2 z0 ?_;(try clear z0);intro heC hoC
        have F₄:Fr h₀ L h₄ m:=⟨F'.ns.at' fun o e=>up _ o wL (Ne.symm hCL) e,fun c o e=>up c o (wold c o e) (fun q=>by rw [q,hC₀] at e;cases e) (F'.keep c o e),F'.above⟩
        have Nown:News h₀ L h₄ (PyProof.Rows.ownOf h₀ fp h₄):=news_ownOf hLf
        have N₅:News h₀ L h₄ ((H2.objs.size,oC)::(s.heap.objs.size,lst zs)::(nw++PyProof.Rows.ownOf h₀ fp h₄)):=fun q hq=>by
          rcases List.mem_cons.mp hq with rfl | hq
          · exact ⟨heC,hCL,hC₀⟩
          · rcases List.mem_cons.mp hq with rfl | hq
            · exact ⟨up _ _ wD hDC D'.1,D'.2⟩
            · rcases List.mem_append.mp hq with hq | hq
              · exact ⟨up _ _ (apn q hq).1 (apn q hq).2.2 (Nn q hq).1,(Nn q hq).2⟩
              · exact Nown q hq
        refine step i x y zs _ oC _ _ h₄ _ nw _ hlt hxy hJ hoC (by simp [hab]) (by simp) F₄ N₅ hnw hLo hDlt _ _ fun v h₅ tk₅ nw' F₅ N₆ hnw' hJ'=>?_
        have zD:=N₆ (s.heap.objs.size,lst zs) (.tail _ (.head _))
        have zC:=N₆ (H2.objs.size,oC) (.head _)
        have apn':=ap nw' hnw'
        refine append_at (hsz:=by show zs.toArray.size≤sizeLine;rw [List.size_toArray,hyl];exact Nat.le_trans hi hz) zD.1 fun h₆ hs₆ hD₆=>?_
        refine ⟨n+1-(i+1),dec hlt,h₆,_,i+1,zs++[v],_,nw',rfl,hlt,rfl,by rw [List.length_append,List.length_singleton,hyl],?_,F₅.change hs₆ hDL hD₀,hoC.ns (hs₆.extBut _ oC (Ne.symm hDC) zC.1),fun q hq=>?_,hnw',hJ'⟩
        · refine W.frame _ _ _ hst₄ fun b hb o e=>?_
          have mem:=N₆ (b,o) (.tail _ (.tail _ (List.mem_append.mpr (.inr (mem_ownOf hb (hfp0 b hb) e)))))
          exact hs₆.extBut b o (fun z=>fD (z ▸ hb)) mem.1
        · rcases List.mem_cons.mp hq with rfl | hq
          · exact ⟨hD₆.trans (congrArg some (lst_snoc zs v)),hDL,hD₀⟩
          · have z:=N₆ q (.tail _ (.tail _ (List.mem_append.mpr (.inl hq))))
            exact ⟨hs₆.extBut _ _ (apn' q hq).2.1 z.1,z.2⟩
      · have hin:i=n:=Nat.le_antisymm hi (Nat.not_lt.mp hlt)
        subst hin
        refine W.done _ _ _ hst' fun h₂ tk₂ hk₂=>?_
        have F₂:Fr h₀ L h₂ m:=⟨F'.ns.at' fun o e=>hk₂ _ o wL e,fun c o e=>hk₂ c o (wold c o e) (F'.keep c o e),F'.above⟩
        refine done _ _ zs nw h₂ tk₂ m' hJ F₂ (fun q hq=>?_) hnw hLo hDlt (hn'.at' fun o e=>hk₂ _ o wC e) hCL hC₀
        rcases List.mem_cons.mp hq with rfl | hq
        · exact ⟨hk₂ _ _ wD D'.1,D'.2⟩
        · exact ⟨hk₂ _ _ (apn q hq).1 (Nn q hq).1,(Nn q hq).2⟩
    · rcases List.mem_cons.mp hp with rfl | hp
      · exact ⟨hacc,hDL,hD₀⟩
      · exact ⟨old _ _ (N p hp).1,(N p hp).2⟩
  exact codeAny_compStart_list (loop _ rfl) (hself _ _ _ hst₁ (loop _ rfl))
end Z0
theorem h_77:∀ j,j<77→∀ u,Pf j u:=histS 76 h_76 (gen 76 h_76 (by with_unfolding_all exact Z0.c_compP))
theorem compP {prog:Program} {w:World} {A:Around} {E:Value→Shared→Prop} {s:Shared} {env:Env} {h₀:Heap} {L:Addr} {elt iter:PySem.Expr} {a b:Str} {pa pb tp:Pos} {kk:Nat} {scope:Scope} {cl:List (Prod Str Addr)} {pos:Pos} {m:Str→Option Value} {news:Led} {RR:Value→Addr→Result→Shared→Prop} {I:Addr} {fp wr:List Addr} {n:Nat} {P Md:Nat→Value→Heap→Prop} {St:Nat→Heap→Prop} (W:KTurns prog w A (.Tuple [.Name a pa,.Name b pb] kk tp) I fp wr n P Md St) (hh:A.handled=none) (xy:Nat→Value→Value→Prop) (hP:∀ i v h,P i v h→∃ T x y,v=.ref T∧xy i x y∧h.IsTuple T #[x,y]) (hself:∀ (s':Shared) (E':Value→Shared→Prop) (Q':Value→Shared→Prop),St 0 s'.heap→Q' (.ref I) s'→wpAny (model prog w) A (pyIter (.ref I)) Q' E' s') (Lo:Nat) (hLf:L ∉ fp) (hfp:∀ b∈fp,@LT.lt Nat _ b s.heap.objs.size) (hfp0:∀ b∈fp,h₀.get? b=none) (hwr:∀ b∈wr,@LE.le Nat _ Lo b∧@LT.lt Nat _ b s.heap.objs.size) (hLo:Lo≤s.heap.objs.size) (hlo:∀ p∈news,@LT.lt Nat _ p.1 Lo) (hst:St 0 s.heap) (hz:n≤sizeLine) (F:Fr h₀ L s.heap m) (N:News h₀ L s.heap news) (hcell:∀ y∈scope.names,y.2≠.cell) (hkind:scope.kind=.function) (hxa:scope.names.lookup a=some .local) (hxb:scope.names.lookup b=some .local) (hab : ¬ a=b) (J:Nat→List Value→Led→Prop) (J0:J 0 [] news) (step:∀ i x y zs C oC D m₂ h tk nw own,i<n→xy i x y→J i zs nw→NsObj oC m₂→m₂ a=some x→m₂ b=some y→Fr h₀ L h m→News h₀ L h ((C,oC)::(D,lst zs)::(nw++own))→(∀ p∈nw,@LT.lt Nat _ p.1 Lo∨@LT.lt Nat _ C p.1)→@LE.le Nat _ Lo D→@LT.lt Nat _ D C →
      ∀ (P1:Value→Shared→Prop) (E':Value→Shared→Prop),(∀ v h' tk' nw',Fr h₀ L h' m→News h₀ L h' ((C,oC)::(D,lst zs)::(nw'++own))→(∀ p∈nw',@LT.lt Nat _ p.1 Lo∨@LT.lt Nat _ C p.1)→J (i+1) (zs++[v]) nw'→P1 v { s with heap:=h',toks:=tk' }) →
      wpAny (model prog w) A (eval elt (compEnvC scope cl C env)) P1 E' { s with heap:=h,toks:=tk }) (done:∀ D C zs nw h tk m',J n zs nw→Fr h₀ L h m→News h₀ L h ((D,lst zs)::nw)→(∀ p∈nw,@LT.lt Nat _ p.1 Lo∨@LT.lt Nat _ C p.1)→@LE.le Nat _ Lo D→@LT.lt Nat _ D C→h.Ns C m'→C≠L→h₀.get? C=none→RR (.ref D) C (.ok .next) { s with heap:=h,toks:=tk }) : wpAny (model prog w) A (newList []) (fun acc s₃=>wpAny (model prog w) A (newFunctionEnv scope env.globals cl [] env.qual none .none (some env)) (fun cenv s₄ =>
      codeAny (model prog w) A (.compStart (.ListComp elt [⟨.Tuple [.Name a pa,.Name b pb] kk tp,iter,[],0⟩] scope pos) 0 (.ref I) acc { cenv with scope:=relabel scope env }) (RR acc cenv.locals) s₄) E s₃) E s:=by with_unfolding_all exact h_77 76 (Nat.lt_succ_self 76) (sk0 |>.set 0 0 prog |>.set 1 0 w |>.set 3 0 E |>.set 4 0 s |>.set 18 0 env |>.set 5 0 h₀ |>.set 6 0 L |>.set 8 3 elt |>.set 8 4 iter |>.set 19 7 b |>.set 56 1 pa |>.set 56 2 pb |>.set 56 3 tp |>.set 12 12 kk |>.set 43 1 scope |>.set 44 0 cl |>.set 56 0 pos |>.set 7 0 m |>.set 22 2 news |>.set 65 0 RR |>.set 6 15 I |>.set 53 0 fp |>.set 53 1 wr |>.set 12 0 n |>.set 54 1 Md |>.set 58 0 xy |>.set 12 22 Lo |>.set 66 0 J) A a P St W hh hP hself hLf hfp hfp0 hwr hLo hlo hst hz F N hcell hkind hxa hxb hab J0 step done
end
section
variable {prog:Program} {w:World} {A:Around} {E:Value→Shared→Prop} {s:Shared} {env:Env} {h₀:Heap} {L:Addr}
end
section
namespace Z0
theorem c_rowsC:∀ A a p,P_rowsC (k0 0) w E s env h₀ L (k8 3) (k8 4) b (k56 1) (k56 2) (k56 3) (k12 12) (k43 1) cl (k56 0) hl (k12 16) x hm u u' m news (k65 0) A a p:=by
  intro A a p hh F N h1 hx hcell hkind hxa hxb hab rest
  have hax1:=N _ h1
  have hl1:s.heap.IsList hl #[.ref (x 0),.ref (x 1),.ref (x 2),.ref (x 3)]:=⟨_,hax1.1,rfl,(k12 16),rfl⟩
  have hlt1 : @LT.lt Nat _ hl s.heap.objs.size:=Heap.lt_size hax1.1
  have hLs : @LT.lt Nat _ L s.heap.objs.size:=F.ns.lt
  refine oe1 (rest s.heap.objs.size fun p hp=>Heap.lt_size (N p hp).1) ?_;intro J z0;refine oa3 z0 ?_;(try clear z0);intro J0 step done
  refine wpAny_pyIter_list hl1 ?_
  have up:∀ b o,s.heap.get? b=some o→(s.heap.push { cls:=.type "list_iterator",data:=.fields #[.ref hl,.int 0 0] }).get? b=some o:=fun b o e=>Heap.get?_push_of_some _ e
  have hidx:∀ j:Nat,j<4→(j:Int)∈ids:=fun j hj=>ids_iff.mpr ⟨by omega,by omega⟩
  have hit:∀ j,j<(#[.ref (x 0),.ref (x 1),.ref (x 2),.ref (x 3)] : Array Value).size→(#[.ref (x 0),.ref (x 1),.ref (x 2),.ref (x 3)] : Array Value)[j]?=some (.ref (x (j:Int))):=fun j hj=>by
    have hj':j<4:=hj
    have:j=0∨j=1∨j=2∨j=3:=by omega
    rcases this with rfl | rfl | rfl | rfl <;> rfl
  have hTI:∀ j,j<(#[.ref (x 0),.ref (x 1),.ref (x 2),.ref (x 3)] : Array Value).size→x (j:Int)≠s.heap.objs.size:=fun j hj=>Nat.ne_of_lt (Heap.lt_size (N _ (hx _ (hidx j hj))).1)
  have hsz:(s.heap.push { cls:=.type "list_iterator",data:=.fields #[.ref hl,.int 0 0] }).objs.size=s.heap.objs.size+1:=Heap.size_push ..
  have hfpm:∀ b∈s.heap.objs.size::hl::(List.range (#[.ref (x 0),.ref (x 1),.ref (x 2),.ref (x 3)] : Array Value).size).map (fun j:Nat=>x (j:Int)),b=s.heap.objs.size∨∃ o,(b,o)∈news:=fun b hb=>by
    rcases List.mem_cons.mp hb with h | h
    · exact .inl h
    · rcases List.mem_cons.mp h with h | h
      · exact .inr ⟨_,h ▸ h1⟩
      · refine oe1 (List.mem_map.mp h) ?_;intro j z0;refine oa2 z0 ?_;(try clear z0);intro hj z33;obtain rfl:=z33
        exact .inr ⟨_,hx _ (hidx j (List.mem_range.mp hj))⟩
  refine compP (KTurns.ofWalksU (WalksU.listOfTuples hh s.heap.objs.size hl (Nat.ne_of_lt hlt1) _ (fun j=>x (j:Int)) (fun j=>#[.int (hm j) (u j),.int (p j) (u' j)]) hit hTI)) hh (fun i x y=>x=.int (hm i) (u i)∧y=.int (p i) (u' i)) ?hP ?hself s.heap.objs.size ?hLf ?hfp ?hfp0 ?hwr ?hLo (fun p hp=>Heap.lt_size (N p hp).1) ?hst (Nat.le_of_ble_eq_true rfl) (F.keeps up) (N.grown up) hcell hkind hxa hxb hab J J0 ?step (fun D C zs nw h tk m' a1 a2 a3 a4 a5 a6 a7 a8 a9=>done D C zs nw h tk m' a1 a2 a3 a4 a5 a6 a7 a8 a9 _ rfl)
  case hP =>
    rintro i v h ⟨T,vals,rfl,rfl,hT⟩
    exact ⟨T,_,_,rfl,⟨rfl,rfl⟩,hT⟩
  case hself=>exact fun s' E' Q' st q=>wpAny_pyIter_listiter st.1 q
  case hLf =>
    intro hm
    rcases hfpm _ hm with h | ⟨o,h⟩
    · exact absurd hLs (by rw [← h];exact Nat.lt_irrefl _)
    · exact (N _ h).2.1 rfl
  case hfp =>
    intro b hb
    show @LT.lt Nat _ b (s.heap.push _).objs.size
    rw [hsz]
    rcases hfpm _ hb with h | ⟨o,h⟩
    · rw [h];exact Nat.lt_succ_self _
    · exact Nat.lt_succ_of_lt (Heap.lt_size (N _ h).1)
  case hfp0 =>
    intro b hb
    rcases hfpm _ hb with h | ⟨o,h⟩
    · rw [h];exact kts_none F.keep (Heap.get?_none_of_le (Nat.le_refl _))
    · exact (N _ h).2.2
  case hwr =>
    intro b hb
    rw [List.mem_singleton.mp hb]
    refine ⟨Nat.le_refl _,?_⟩
    show @LT.lt Nat _ s.heap.objs.size (s.heap.push _).objs.size
    rw [hsz];exact Nat.lt_succ_self _
  case hLo =>
    show s.heap.objs.size≤(s.heap.push _).objs.size
    rw [hsz];exact Nat.le_succ _
  case hst =>
    exact ⟨⟨_,Heap.get?_push_size _ rfl,rfl,rfl⟩,hl1.at fun o e=>up _ o e,fun k hk=>Heap.IsTuple.at ⟨_,(N _ (hx _ (hidx k hk))).1,rfl,0,rfl⟩ fun o e=>up _ o e⟩
  case step =>
    rintro i _ _ zs C oC D m₂ h tk nw own hi ⟨rfl,rfl⟩ hJ hC ha hb F4 N4 hnw h1 h2 P1 E' f1
    exact step i (i:Int) zs C oC D m₂ h tk nw own (hidx i hi) rfl hJ hC ha hb F4 N4 hnw h1 h2 P1 E' f1
end Z0
theorem h_78:∀ j,j<78→∀ u,Pf j u:=histS 77 h_77 (gen 77 h_77 (by with_unfolding_all exact Z0.c_rowsC))
theorem rowsC {prog:Program} {w:World} {A:Around} {E:Value→Shared→Prop} {s:Shared} {env:Env} {h₀:Heap} {L:Addr} {elt iter:PySem.Expr} {a b:Str} {pa pb tp:Pos} {kk:Nat} {scope:Scope} {cl:List (Prod Str Addr)} {pos:Pos} {hl:Addr} {nh:Nat} {x:Int→Addr} {hm p:Int→Int} {u u':Int→Tok} {m:Str→Option Value} {news:Led} {RR:Value→Addr→Result→Shared→Prop} : P_rowsC prog w E s env h₀ L elt iter b pa pb tp kk scope cl pos hl nh x hm u u' m news RR A a p:=by with_unfolding_all exact h_78 77 (Nat.lt_succ_self 77) (sk0 |>.set 0 0 prog |>.set 1 0 w |>.set 3 0 E |>.set 4 0 s |>.set 18 0 env |>.set 5 0 h₀ |>.set 6 0 L |>.set 8 3 elt |>.set 8 4 iter |>.set 19 7 b |>.set 56 1 pa |>.set 56 2 pb |>.set 56 3 tp |>.set 12 12 kk |>.set 43 1 scope |>.set 44 0 cl |>.set 56 0 pos |>.set 6 21 hl |>.set 12 16 nh |>.set 60 0 x |>.set 21 4 hm |>.set 61 0 u |>.set 61 1 u' |>.set 7 0 m |>.set 22 2 news |>.set 65 0 RR) A a p
end
section
variable {prog:Program} {w:World} {A:Around} {E:Value→Shared→Prop} {s:Shared} {env:Env} {h₀:Heap} {L:Addr}
theorem Assign_rows {elt iter:PySem.Expr} {a b y:Str} {pa pb tp py:Pos} {kk:Nat} {scope:Scope} {cl:List (Str × Addr)} {pos spos:Pos} {hl:Addr} {nh:Nat} {x:Int→Addr} {hm p:Int→Int} {u u':Int→Tok} {m:Str→Option Value} {news:Led} {Q:Flow→Shared→Prop}
    (hLe:env.locals=L) (hsw:swapsWith (.ListComp elt [⟨.Tuple [.Name a pa,.Name b pb] kk tp,iter,[],0⟩] scope pos) (some (.Name y py)) spos.line env=pure true)
    (hclos:closureFor scope env=pure cl) (hnames:∀ z∈scope.names,z.2=.local→scope.names.lookup z.1=some .local) (hy:env.kindOf y=some .local) (hp:(env.scope.kind == .class || (env.scope.kind == .module && env.locals != env.globals))=false)
    (hit:∀ Q':Value→Shared→Prop,Q' (.ref hl) s→wpAny (model prog w) A (eval iter env) Q' E s)
    (hs:∀ x,foldedSetIterable iter env x=pure x)
    (hh:A.handled=none) (F:Fr h₀ L s.heap m) (N:News h₀ L s.heap news)
    (h1:(hl,listOf #[.ref (x 0),.ref (x 1),.ref (x 2),.ref (x 3)] nh)∈news) (hx:∀ k∈ids,(x k,tupO (hm k) (p k) (u k) (u' k))∈news)
    (hcell:∀ y∈scope.names,y.2≠.cell) (hkind:scope.kind=.function) (hxa:scope.names.lookup a=some .local) (hxb:scope.names.lookup b=some .local) (hab : ¬ a=b)
    (rest:∀ Lo:Nat,(∀ p∈news,p.1<Lo)→∃ J:Nat→List Value→Led→Prop,J 0 [] news ∧
      (∀ (i:Nat) (i':Int) zs C oC D m₂ h tk nw own,i'∈ids→(i:Int)=i'→J i zs nw→NsObj oC m₂→m₂ a=some (.int (hm i') (u i'))→m₂ b=some (.int (p i') (u' i'))→Fr h₀ L h m→News h₀ L h ((C,oC)::(D,lst zs)::(nw++own))→(∀ p∈nw,@LT.lt Nat _ p.1 Lo∨@LT.lt Nat _ C p.1)→@LE.le Nat _ Lo D→@LT.lt Nat _ D C →
        ∀ (P1:Value→Shared→Prop) (E':Value→Shared→Prop),(∀ v h' tk' nw',Fr h₀ L h' m→News h₀ L h' ((C,oC)::(D,lst zs)::(nw'++own))→(∀ p∈nw',@LT.lt Nat _ p.1 Lo∨@LT.lt Nat _ C p.1)→J (i+1) (zs++[v]) nw'→P1 v { s with heap:=h',toks:=tk' }) →
        wpAny (model prog w) A (eval elt (compEnvC scope cl C env)) P1 E' { s with heap:=h,toks:=tk }) ∧
      ∀ D zs nw h tk,J 4 zs nw→Fr h₀ L h (fun z=>if z=y then some (.ref D) else m z)→News h₀ L h ((D,lst zs)::nw)→(∀ p∈nw,@LT.lt Nat _ p.1 Lo∨@LT.lt Nat _ D p.1)→@LE.le Nat _ Lo D→Q .next { s with heap:=h,toks:=tk }) :
    wpAny (model prog w) A (exec (.Assign [.Name y py] (.ListComp elt [⟨.Tuple [.Name a pa,.Name b pb] kk tp,iter,[],0⟩] scope pos) spos) env) Q E s:=by
  subst hLe
  rw [exec_Assign_Name_used _ _ _ _ hsw]
  refine wpAny_bind (wpAny_standAt (wpAny_bind ?_))
  show wpAny _ A (do let _ ← comprehension (.ListComp elt [⟨.Tuple [.Name a pa,.Name b pb] kk tp,iter,[],0⟩] scope pos) scope env _ (newList []) false (eval iter env) (some (assign (.Name y py) env))) _ _ s
  refine wpAny_bind (wpAny_mono (wpAny_comprehension_free (use:=some (assign (.Name y py) env)) (Q:=fun _ s'=>Q .next s') rfl hs hclos hkind hnames
    (hit _ ?_)) (fun _ s' hq=>wpAny_pure (wpAny_pure hq)) fun _ _ e=>e)
  refine rowsC hh F N h1 hx hcell hkind hxa hxb hab fun Lo hLo=>?_
  refine oe1 (rest Lo hLo) ?_;intro J z0;refine oa3 z0 ?_;(try clear z0);intro J0 step done
  refine ⟨J,J0,step,fun D C zs nw h tk m' hJ F' N' hnw hD hDC hn hCL hC₀ s' e=>?_⟩
  subst e
  show wpAny _ A (assign (.Name y py) env (.ref D)) _ _ _
  refine wpAny_assign_Name (wpAny_storeName_local hy F'.ns (fun h₂ hn₂ hs₂=>?_) hp)
  have hL₀:h₀.get? env.locals=none:=Heap.get?_none_of_le F'.above
  have F₂:Fr h₀ env.locals h₂ (fun z=>if z=y then some (.ref D) else m z):=⟨hn₂,fun b o e=>hs₂.extBut b o (fun q=>by rw [q,hL₀] at e;cases e) (F'.keep b o e),F'.above⟩
  refine ⟨m',hn.sameBut hs₂ hCL,fun h'' hs''=>done D zs nw h'' _ hJ (F₂.change hs'' hCL hC₀) (fun p hp=>?_) (fun p hp=>(hnw p hp).imp id fun z=>Nat.lt_trans hDC z) hD⟩
  have z:h₂.get? p.1=some p.2:=hs₂.extBut _ _ (N' p hp).2.1 (N' p hp).1
  refine ⟨hs''.extBut _ _ ?_ z,(N' p hp).2⟩
  rcases List.mem_cons.mp hp with rfl | hp
  · exact Nat.ne_of_lt hDC
  · rcases hnw p hp with h1 | h1
    · exact Nat.ne_of_lt (Nat.lt_trans (Nat.lt_of_lt_of_le h1 hD) hDC)
    · exact Nat.ne_of_gt h1
end
end Mine
namespace Mine
namespace Z0
theorem c_c4_end:∀ C i i',P_c4_end h₀ (k5 3) L (k6 11) (k6 24) m (k16 16) (k23 8) (k22 10) (k22 11) news (k22 9) (k22 12) s (k3 3) hm (k21 5) Lo (k15 25) (k14 29) (k14 34) (k12 23) (k67 0) C i i':=by
  intro C i i' f1 hJ hnw hii hD hDC hW F N l1 eq
  refine oa3 hJ ?_;(try clear hJ);intro hsub hlen z0;refine oe3 z0 ?_;(try clear z0);intro T b b' hT
  subst hii
  refine f1 _ _ _ (((k6 24),tupO (hm i) (k15 25) (k14 29) (k14 34))::(k22 10)) F (News.sub N fun q hq=>?_) (fun p hp=>?_) ⟨fun q hq=>.tail _ (hsub q hq),by rw [List.length_append,hlen];rfl,fun k=>if k=i then (k6 24) else T k,fun k=>if k=i then (k14 29) else b k,fun k=>if k=i then (k14 34) else b' k,fun k hk=>?_⟩
  · rcases List.mem_cons.mp hq with rfl | hq
    · exact .tail _ (.head _)
    · rcases List.mem_cons.mp hq with rfl | hq
      · exact .tail _ (.tail _ (List.mem_append.mpr (.inr (hW ▸ .head _))))
      · rcases List.mem_append.mp hq with hq | hq
        · rcases List.mem_cons.mp hq with rfl | hq
          · exact .head _
          · exact .tail _ (.tail _ (List.mem_append.mpr (.inr (hW ▸ .tail _ (List.mem_append.mpr (.inl hq))))))
        · exact .tail _ (.tail _ (List.mem_append.mpr (.inr (hW ▸ .tail _ (List.mem_append.mpr (.inr hq))))))
  · rcases List.mem_cons.mp hp with rfl | hp
    · exact .inr l1.1
    · exact hnw p hp
  · by_cases e:k=i
    · subst e
      simp only [if_true]
      refine ⟨by rw [List.getElem?_append_right (by omega),hlen];simp,by rw [← eq];exact .head _,Nat.lt_of_le_of_lt hD (Nat.lt_trans hDC l1.1)⟩
    · simp only [e,if_false]
      refine oa3 (hT k (by omega)) ?_;intro h1 h2 h3
      refine ⟨by rw [List.getElem?_append_left (by omega)];exact h1,.tail _ h2,h3⟩
end Z0
theorem h_79:∀ j,j<79→∀ u,Pf j u:=histS 78 h_78 (gen 78 h_78 (by with_unfolding_all exact Z0.c_c4_end))
theorem c4_end {h₀ h':Heap} {L C D T':Addr} {m:Str→Option Value} {oC:Obj} {zs:List Value} {nw own news W ex:Led} {s:Shared} {P1:Value→Shared→Prop} {hm pm:Int→Int} {Lo i:Nat} {i' q0:Int} {t t':Tok} {tk:Nat} {K:Prop} : P_c4_end h₀ h' L D T' m oC zs nw own news W ex s P1 hm pm Lo q0 t t' tk K C i i':=by with_unfolding_all exact h_79 78 (Nat.lt_succ_self 78) (sk0 |>.set 5 0 h₀ |>.set 5 3 h' |>.set 6 0 L |>.set 6 11 D |>.set 6 24 T' |>.set 7 0 m |>.set 16 16 oC |>.set 23 8 zs |>.set 22 10 nw |>.set 22 11 own |>.set 22 2 news |>.set 22 9 W |>.set 22 12 ex |>.set 4 0 s |>.set 3 3 P1 |>.set 21 4 hm |>.set 21 5 pm |>.set 12 22 Lo |>.set 15 25 q0 |>.set 14 29 t |>.set 14 34 t' |>.set 12 23 tk |>.set 67 0 K) C i i'
theorem c4_list {zs:List Value} {T:Nat→Addr} (hl:zs.length=4) (h:∀ k:Nat,k<4→zs[k]?=some (.ref (T k))) : zs=[.ref (T 0),.ref (T 1),.ref (T 2),.ref (T 3)] :=
  List.ext_getElem? fun k=>by
    rcases Nat.lt_or_ge k 4 with q | q
    · rw [h k q]
      rcases k with _ | _ | _ | _ | k
      · rfl
      · rfl
      · rfl
      · rfl
      · omega
    · rw [List.getElem?_eq_none (by rw [hl];exact q),List.getElem?_eq_none (by exact q)]
section
theorem kw105_1:True:=by
  k_with "call ref" => ((fail_if_success have:=@e105_1);k_here;(with_reducible show wpAny _ _ (call (Value.ref 539) _) _ _ _);k_dflt (refine' Spec.use (law_led ) ?B ?F ?X ?N ?P ?hr ?T ?hk ?hd ?hu ?_;k_extra "us1"; (case hr=>(repeat' first | exact Off.none | exact Off.sub ‹_› (by k_extra "sb") | refine' Off.cons ?_ ?_ | exact ni_nil | refine' ni_cons ?_ ?_ | k_ne));k_whole);intro v9 led9 h' tk' hP9;refine oa2 hP9 ?_;(try clear hP9);intro z34 hl9;refine oe1 z34 ?_;(try clear z34);intro t9 hv9;subst hv9;subst hl9;intro F' N';k_extra "nn")
  trivial
namespace Z3
theorem c_homes4:∀ st cs p,P_homes4 w dp un gd a A₀ base (k0 2) loose mean mg mb L I oI A s R P dl bl ow sp h₀ hl x hm u u' nh m news o2 o3 o4 o5 side s_ e_ n_ (k14 3) t3 t4 t5 st cs p:=by
  intro st cs p hb hc hd hu B X Tp F hmm N h1 hx c2 c3 c4 c5 d2 d3 d4 d5 next
  cases hb
  cases hc
  dsimp only
  revert X;k_fill;intro X
  refine' Assign_rows (hl:=hl) (x:=x) (hm:=hm) (p:=p) (u:=u) (u':=u') (nh:=nh) rfl ?hsw ?hclos ?hnames rfl rfl ?hit ?hs rfl F N h1 hx ?hcell rfl rfl rfl ?hab ?rest
  (case hsw=>rfl)
  (case hclos=>rfl)
  (case hnames=>decide +kernel)
  (case hit=>(intro Q' q;exact nameC_L F hmm q))
  (case hs=>intro _;rfl)
  (case hcell=>decide +kernel)
  (case hab=>decide)
  case rest =>
    intro Lo hLo
    refine ⟨J4 news hm (fun k=>if hm k=side then led1 (p k) s_ e_ n_ else p k) Lo,⟨fun q hq=>hq,rfl,fun _=>0,fun _=>0,fun _=>0,fun k hk=>absurd hk (Nat.not_lt_zero k)⟩,?_,?_⟩
    · intro i i' zs C oC D m₂ h tk nw own hi hii hJ hC ha hb F4 N4 hnw hD hDC P1 E' f1
      obtain ⟨W,hW⟩ : ∃ W,W=(D,LCg.lst zs)::(nw++own):=⟨_,rfl⟩
      have mw:∀ q∈news,q∈(C,oC)::(D,LCg.lst zs)::(nw++own):=fun q hq=>.tail _ (.tail _ (List.mem_append.mpr (.inl (hJ.1 q hq))))
      have N2:News h₀ L h ((C,oC)::(L+1+1,o2)::(L+1+1+1,o3)::(L+1+1+1+1,o4)::(L+1+1+1+1+1,o5)::W):=fun q hq=>by
        rcases List.mem_cons.mp hq with rfl | hq
        · exact N4 _ (.head _)
        · rcases List.mem_cons.mp hq with rfl | hq
          · exact N4 _ (mw _ c2)
          · rcases List.mem_cons.mp hq with rfl | hq
            · exact N4 _ (mw _ c3)
            · rcases List.mem_cons.mp hq with rfl | hq
              · exact N4 _ (mw _ c4)
              · rcases List.mem_cons.mp hq with rfl | hq
                · exact N4 _ (mw _ c5)
                · exact N4 _ (.tail _ (hW ▸ hq))
      clear N4 N F
      k_steps
      · rename Fr _ _ _ _=>F9
        rename News _ _ _ _=>N9
        rename hm i'=side=>z9
        exact c4_end (ex:=[(L+1+1,o2),(L+1+1+1,o3),(L+1+1+1+1,o4),(L+1+1+1+1+1,o5)]) f1 hJ hnw hii hD hDC hW F9 N9 ‹_› (by show _=if hm i'=side then _ else _;rw [if_pos z9])
      · rename Fr _ _ _ _=>F9
        rename News _ _ _ _=>N9
        rename hm i'≠side=>z9
        exact c4_end (ex:=[(L+1+1,o2),(L+1+1+1,o3),(L+1+1+1+1,o4),(L+1+1+1+1+1,o5)]) f1 hJ hnw hii hD hDC hW F9 N9 ‹_› (by show _=if hm i'=side then _ else _;rw [if_neg z9])
    · intro D zs nw h tk hJ F4 N4 hnw hD
      refine oa3 hJ ?_;(try clear hJ);intro hsub hlen z0;refine oe3 z0 ?_;(try clear z0);intro T b b' hT
      have ez:=c4_list hlen fun k hk=>(hT k hk).1
      subst ez
      refine next D (fun i=>T i.toNat) (fun i=>b i.toNat) (fun i=>b' i.toNat) h tk F4 (News.sub N4 fun q hq=>?_) (fun q hq=>Nat.lt_of_lt_of_le (hLo q hq) hD) fun i hi=>?_
      · rcases List.mem_cons.mp hq with rfl | hq
        · exact .head _
        · rcases List.mem_cons.mp hq with rfl | hq
          · exact .tail _ (hT 0 (by decide)).2.1
          · rcases List.mem_cons.mp hq with rfl | hq
            · exact .tail _ (hT 1 (by decide)).2.1
            · rcases List.mem_cons.mp hq with rfl | hq
              · exact .tail _ (hT 2 (by decide)).2.1
              · rcases List.mem_cons.mp hq with rfl | hq
                · exact .tail _ (hT 3 (by decide)).2.1
                · exact .tail _ (hsub q hq)
      · have hi4:=ids_iff.mp hi
        refine oa3 (hT i.toNat (by omega)) ?_;intro _ h2 h3
        rcases hnw _ h2 with z | z
        · exact absurd z (Nat.not_lt.mpr (Nat.le_of_lt h3))
        · exact z
end Z3
theorem h_80:∀ j,j<80→∀ u,Pf j u:=histS 79 h_79 (gen 79 h_79 (by with_unfolding_all exact Z3.c_homes4))
theorem homes4 {st:PySem.Stmt} {w:World} {dp un:Nat} {gd:Option (List Code)} {cs:Scope} {a:Addr} {A₀:Around} {base:Heap} {p_:Program} {loose:List Str} {mean:ExcName→Option Value} {mg mb:Str→Option Value} {L I:Nat} {oI:Obj} {A:Ad} {s:Shared} {R:Result→Shared→Prop} {P:Flow→Shared→Prop} {dl bl ow sp:Addr} {h₀:Heap} {hl:Addr} {x:Int→Addr} {hm p:Int→Int} {u u':Int→Tok} {nh:Nat} {m:Str→Option Value} {news:Led} {o2 o3 o4 o5:Obj} {side s_ e_ n_:Int} {t2 t3 t4 t5:Tok} : P_homes4 w dp un gd a A₀ base p_ loose mean mg mb L I oI A s R P dl bl ow sp h₀ hl x hm u u' nh m news o2 o3 o4 o5 side s_ e_ n_ t2 t3 t4 t5 st cs p:=by with_unfolding_all exact h_80 79 (Nat.lt_succ_self 79) (sk0 |>.set 1 0 w |>.set 12 7 dp |>.set 12 8 un |>.set 42 0 gd |>.set 6 14 a |>.set 2 2 A₀ |>.set 5 2 base |>.set 0 2 p_ |>.set 35 1 loose |>.set 41 0 mean |>.set 7 4 mg |>.set 7 5 mb |>.set 12 19 L |>.set 12 20 I |>.set 16 7 oI |>.set 25 0 A |>.set 4 0 s |>.set 49 0 R |>.set 63 0 P |>.set 6 22 dl |>.set 6 18 bl |>.set 6 20 ow |>.set 6 19 sp |>.set 5 0 h₀ |>.set 6 21 hl |>.set 60 0 x |>.set 21 4 hm |>.set 61 0 u |>.set 61 1 u' |>.set 12 16 nh |>.set 7 0 m |>.set 22 2 news |>.set 16 9 o2 |>.set 16 10 o3 |>.set 16 11 o4 |>.set 16 12 o5 |>.set 15 24 side |>.set 15 17 s_ |>.set 15 18 e_ |>.set 15 26 n_ |>.set 14 3 t2 |>.set 14 4 t3 |>.set 14 5 t4 |>.set 14 6 t5) st cs p
theorem e105_1:True:=trivial
end
end Mine
namespace Mine
open PyProof.V PyProof.Rows.LCg
theorem led1_in {p s e n z:Int} (h1:1≤s) (h2:s≤e) (h3:e≤z+1) (h4:0≤n) (h6:s<e→n=0) (p1:1≤p) (p2:p≤z+1) : 1≤led1 p s e n∧led1 p s e n≤z+n-(e-s)+1:=by
  unfold led1
  by_cases hse:s=e
  · rw [if_pos hse];split <;> omega
  · rw [if_neg hse]
    have:=h6 (by omega)
    split <;> omega
theorem edit_good {σ:Sg} {j s e n:Int} (good:∀ i∈ids,(σ.home i=-1∧σ.pos i=0)∨(σ.home i∈sides∧1≤σ.pos i∧σ.pos i≤σ.size (σ.home i)+1)) (hj:j∈sides) (h1:1≤s) (h2:s≤e) (h3:e≤σ.size j+1) (h4:0≤n) (h6:s<e→n=0) :
    ∀ i∈ids,((σ.edit j s e n).home i=-1∧(σ.edit j s e n).pos i=0)∨((σ.edit j s e n).home i∈sides∧1≤(σ.edit j s e n).pos i∧(σ.edit j s e n).pos i≤(σ.edit j s e n).size ((σ.edit j s e n).home i)+1):=fun i hi=>by
  show (σ.home i=-1∧(if σ.home i=j then led1 (σ.pos i) s e n else σ.pos i)=0)∨(σ.home i∈sides∧1≤(if σ.home i=j then led1 (σ.pos i) s e n else σ.pos i)∧(if σ.home i=j then led1 (σ.pos i) s e n else σ.pos i)≤upd σ.size j (σ.size j+n-(e-s)) (σ.home i)+1)
  by_cases h:σ.home i=j
  · rw [if_pos h,h,upd_same]
    right
    rcases good i hi with g | g
    · have:=sides_iff.mp hj
      omega
    · rw [h] at g
      exact ⟨hj,led1_in h1 h2 h3 h4 h6 g.2.1 g.2.2⟩
  · rw [if_neg h,upd_other h]
    exact good i hi
theorem edit_pts {σ:Sg} {j s e n:Int} (pts:∀ j∈sides,0≤σ.size j∧σ.size j≤σ.lim∧1≤σ.point j∧σ.point j≤σ.size j+1) (h1:1≤s) (h2:s≤e) (h3:e≤σ.size j+1) (h4:0≤n) (h5:n≤10) (h6:s<e→n=0) :
    ∀ i∈sides,0≤(σ.edit j s e n).size i∧(σ.edit j s e n).size i≤(σ.edit j s e n).lim∧1≤(σ.edit j s e n).point i∧(σ.edit j s e n).point i≤(σ.edit j s e n).size i+1:=fun i hi=>by
  show 0≤upd σ.size j (σ.size j+n-(e-s)) i∧upd σ.size j (σ.size j+n-(e-s)) i≤((σ.lim+18:Nat) : Int)∧1≤upd σ.point j (led1 (σ.point j) s e n) i∧upd σ.point j (led1 (σ.point j) s e n) i≤upd σ.size j (σ.size j+n-(e-s)) i+1
  refine oa4 (pts i hi) ?_;intro q1 q2 q3 q4
  by_cases h:i=j
  · subst h
    rw [upd_same,upd_same]
    have:=led1_in h1 h2 h3 h4 h6 q3 q4
    exact ⟨by omega,by omega,this.1,this.2⟩
  · rw [upd_other h,upd_other h]
    exact ⟨q1,by omega,q3,q4⟩
namespace Z3
theorem c_LI_fresh:∀ T,P_LI_fresh w L I A σ (k28 1) dl bl ow sp hl D x S S' T1 T2 dv dv' dn dn' T:=by
  intro T II hS di dz good pts hI hdl hbl how hsp hSD lT
  obtain ⟨ok,_,t1,t2,_,_,_,_,lo,lI,lt,na,tt,tn,⟨d1,d2,d3,d4,d5,d6,d7,d8,d9⟩,dix⟩:=II
  have lA:∀ a∈A.all,@LT.lt Nat _ a D:=fun a ha=>by
    rw [← hS.adr] at ha
    refine oe1 (List.mem_map.mp ha) ?_;intro q z0;refine oa2 z0 ?_;(try clear z0);intro hq z35;obtain rfl:=z35
    exact hSD q (List.mem_append.mpr (.inl hq))
  have big:∀ a:Nat,@LE.le Nat _ D a→(L+8<a∧a≠I)∧a ∉ A.all:=fun a h=>⟨⟨by omega,by omega⟩,fun hm=>absurd (lA a hm) (Nat.not_lt.mpr h)⟩
  have mem:∀ a:Addr,a∈[dl,bl,ow,sp,D,T 0,T 1,T 2,T 3]→a∈[dl,bl,ow,sp,hl,x 0,x 1,x 2,x 3]∨@LE.le Nat _ D a:=fun a h=>by
    simp only [List.mem_cons,List.not_mem_nil,or_false] at h
    rcases h with h | h | h | h | h | h | h | h | h
    · exact .inl (by simp [h])
    · exact .inl (by simp [h])
    · exact .inl (by simp [h])
    · exact .inl (by simp [h])
    · exact .inr (by rw [h];exact Nat.le_refl _)
    · exact .inr (by rw [h];exact Nat.le_of_lt (lT 0 (by decide)))
    · exact .inr (by rw [h];exact Nat.le_of_lt (lT 1 (by decide)))
    · exact .inr (by rw [h];exact Nat.le_of_lt (lT 2 (by decide)))
    · exact .inr (by rw [h];exact Nat.le_of_lt (lT 3 (by decide)))
  refine ⟨ok,hS,t1,t2,di,dz,good,pts,fun a h=>?_,lI,lt,fun a h=>?_,fun q hq=>?_,tn,⟨d1,d2,d3,Nat.ne_of_lt hdl,d5,Nat.ne_of_lt hbl,d7,Nat.ne_of_lt how,Nat.ne_of_lt hsp⟩,fun k hk=>?_⟩
  · rcases List.mem_append.mp h with h | h
    · rcases mem a h with h | h
      · exact lo a (List.mem_append.mpr (.inl h))
      · exact (big a h).1
    · exact lo a (List.mem_append.mpr (.inr h))
  · rcases mem a h with h | h
    · exact na a h
    · exact (big a h).2
  · refine oa6 (tt q hq) ?_;intro z1 z2 z3 z4 _ z6
    exact ⟨z1,z2,z3,z4,Nat.ne_of_lt (hSD q (List.mem_append.mpr (.inr hq))),z6⟩
  · have:=lT k hk
    exact ⟨Nat.ne_of_lt (Nat.lt_trans hdl this),Nat.ne_of_lt (Nat.lt_trans hsp this),Nat.ne_of_lt this⟩
end Z3
theorem h_81:∀ j,j<81→∀ u,Pf j u:=histS 80 h_80 (gen 80 h_80 (by with_unfolding_all exact Z3.c_LI_fresh))
theorem LI.fresh {w:World} {L I:Nat} {A:Ad} {σ σ':Sg} {dl bl ow sp hl D:Addr} {x T:Int→Addr} {S S' T1 T2:Led} {dv dv':List Value} {dn dn':List Int} : P_LI_fresh w L I A σ σ' dl bl ow sp hl D x S S' T1 T2 dv dv' dn dn' T:=by with_unfolding_all exact h_81 80 (Nat.lt_succ_self 80) (sk0 |>.set 1 0 w |>.set 12 19 L |>.set 12 20 I |>.set 25 0 A |>.set 28 0 σ |>.set 28 1 σ' |>.set 6 22 dl |>.set 6 18 bl |>.set 6 20 ow |>.set 6 19 sp |>.set 6 21 hl |>.set 6 11 D |>.set 60 0 x |>.set 22 4 S |>.set 22 8 S' |>.set 22 6 T1 |>.set 22 7 T2 |>.set 23 6 dv |>.set 23 7 dv' |>.set 24 2 dn |>.set 24 3 dn') T
theorem fresh_na3 {w:World} {L I:Nat} {A:Ad} {σ:Sg} {dl bl ow sp hl T:Addr} {x:Int→Addr} {S r:Led} {K:Prop} (l1:K∧@LT.lt Nat _ dl T∧@LT.lt Nat _ I T∧@LT.lt Nat _ (L+1+1+1+1+1+1+1+1) T∧@LT.lt Nat _ (L+1+1+1+1+1+1+1) T∧@LT.lt Nat _ (L+1+1+1+1+1+1) T∧@LT.lt Nat _ (L+1+1+1+1+1) T∧@LT.lt Nat _ (L+1+1+1+1) T∧@LT.lt Nat _ (L+1+1+1) T∧@LT.lt Nat _ (L+1+1) T∧@LT.lt Nat _ (L+1) T∧@LT.lt Nat _ bl T∧@LT.lt Nat _ ow T∧@LT.lt Nat _ sp T∧@LT.lt Nat _ hl T∧@LT.lt Nat _ (x 0) T∧@LT.lt Nat _ (x 1) T∧@LT.lt Nat _ (x 2) T∧@LT.lt Nat _ (x 3) T∧AllLt T (S++r)) (hS:St w A σ S) : ∀ a∈A.all,@LT.lt Nat _ a T:=by
  refine and20 (l1) ?_;intro _ ldl lI_ l8 l7 l6 l5 l4 l3 l2 l1_ lbl low lsp lhl lx0 lx1 lx2 lx3 lS
  intro a ha
  rw [← hS.adr] at ha
  refine oe1 (List.mem_map.mp ha) ?_;intro q z0;refine oa2 z0 ?_;(try clear z0);intro hq z36;obtain rfl:=z36
  exact allLt_mem lS q (List.mem_append.mpr (.inl hq))
theorem mem_ls {A:Ad} {j:Int} (hj:j∈sides) : A.ls j∈A.all:=List.mem_append.mpr (.inr (List.mem_flatMap.mpr ⟨j,hj,by simp [Ad.bAd]⟩))
end Mine
namespace Mine
namespace Z3
theorem c_lap_fresh:∀ b b',P_lap_fresh w L I oI A σ D (k60 1) side s_ e_ n_ (k14 35) (k14 36) dl bl ow sp hl x u u' S S' T1 T2 dv dv' dn dn' nd nb no ns nh s0 s1 o1 o2 o3 o4 o5 o6 o7 o8 h₀ (k5 3) m' b b':=by
  intro b b' II hS di dz good pts N x9 lD lT h1 h2 h3 cs c6 c8
  have II2:=II.fresh (D:=D) (T:=(k60 1)) hS di dz good pts (lD (I,oI) (by k_extra "mem")) (lD (dl,listOf (List.toArray dv') nd) (by k_extra "mem")) (lD (bl,listOf #[.ref (A.b 0),.ref (A.b 1)] nb) (by k_extra "mem")) (lD (ow,listOf #[.ref (A.ma 0),.ref (A.ma 1),.ref (A.ma 2),.ref (A.ma 3)] no) (by k_extra "mem")) (lD (sp,listOf #[.int (σ.point 0) s0,.int (σ.point 1) s1] ns) (by k_extra "mem")) (fun q hq=>lD q (by simp only [List.mem_cons,hq,or_true])) lT
  refine lap_gen (u:=b) (u':=b') (nd:=nd) (nb:=nb) (no:=no) (ns:=ns) (nh:=4) (s0:=(k14 35)) (s1:=(k14 36)) II2 (News.sub N fun q hq=>?_) ‹_› (Nat.le_refl _) h1 h2 h3 cs c6 c8
  revert q;k_extra "sb"
end Z3
theorem h_82:∀ j,j<82→∀ u,Pf j u:=histS 81 h_81 (gen 81 h_81 (by with_unfolding_all exact Z3.c_lap_fresh))
theorem lap_fresh {w:World} {L I:Nat} {oI:Obj} {A:Ad} {σ:Sg} {D:Addr} {Tn:Int→Addr} {b b':Int→Tok} {side s_ e_ n_:Int} {s0' s1':Tok} {dl bl ow sp hl:Addr} {x:Int→Addr} {u u':Int→Tok} {S S' T1 T2:Led} {dv dv':List Value} {dn dn':List Int} {nd nb no ns nh:Nat} {s0 s1:Tok} {o1 o2 o3 o4 o5 o6 o7 o8:Obj} {h₀ h':Heap} {m':Str→Option Value} : P_lap_fresh w L I oI A σ D Tn side s_ e_ n_ s0' s1' dl bl ow sp hl x u u' S S' T1 T2 dv dv' dn dn' nd nb no ns nh s0 s1 o1 o2 o3 o4 o5 o6 o7 o8 h₀ h' m' b b':=by with_unfolding_all exact h_82 81 (Nat.lt_succ_self 81) (sk0 |>.set 1 0 w |>.set 12 19 L |>.set 12 20 I |>.set 16 7 oI |>.set 25 0 A |>.set 28 0 σ |>.set 6 11 D |>.set 60 1 Tn |>.set 15 24 side |>.set 15 17 s_ |>.set 15 18 e_ |>.set 15 26 n_ |>.set 14 35 s0' |>.set 14 36 s1' |>.set 6 22 dl |>.set 6 18 bl |>.set 6 20 ow |>.set 6 19 sp |>.set 6 21 hl |>.set 60 0 x |>.set 61 0 u |>.set 61 1 u' |>.set 22 4 S |>.set 22 8 S' |>.set 22 6 T1 |>.set 22 7 T2 |>.set 23 6 dv |>.set 23 7 dv' |>.set 24 2 dn |>.set 24 3 dn' |>.set 12 21 nd |>.set 12 13 nb |>.set 12 15 no |>.set 12 14 ns |>.set 12 16 nh |>.set 14 26 s0 |>.set 14 27 s1 |>.set 16 8 o1 |>.set 16 9 o2 |>.set 16 10 o3 |>.set 16 11 o4 |>.set 16 12 o5 |>.set 16 13 o6 |>.set 16 14 o7 |>.set 16 15 o8 |>.set 5 0 h₀ |>.set 5 3 h' |>.set 7 6 m') b b'
section
theorem kw107_1:True:=by
  k_with "call ref" => ((fail_if_success have:=@e107_1);k_here;(with_reducible show wpAny _ _ (call (Value.ref 539) _) _ _ _);k_dflt (refine' Spec.use (law_led ) ?B ?F ?X ?N ?P ?hr ?T ?hk ?hd ?hu ?_;k_extra "us1"; (case hr=>(repeat' first | exact Off.none | exact Off.sub ‹_› (by k_extra "sb") | refine' Off.cons ?_ ?_ | exact ni_nil | refine' ni_cons ?_ ?_ | k_ne));k_whole);intro v9 led9 h' tk' hP9;refine oa2 hP9 ?_;(try clear hP9);intro z37 hl9;refine oe1 z37 ?_;(try clear z37);intro t9 hv9;subst hv9;subst hl9;intro F' N';k_extra "nn")
  k_with "subscriptTail Name Name ref int" => ((fail_if_success have:=@e107_1);k_here;k_dflt (refine' sub_spots (f:=Sg.point _) ?N ?l ?v ?_ ?s ?t;(case N=>k_asm);(case l=>k_mem);(case v=>assumption);k_extra "tl"))
  k_with "setItem ref int" => ((fail_if_success have:=@e107_1);k_here;(with_reducible show wpAny _ _ (setItem (Value.ref _) (Value.int _ _) (Value.int _ _)) _ _ _);k_dflt (refine' set_spots (f:=Sg.point _) ?F ?N ?hj ?U ?_;(case F=>k_asm);(case N=>k_asm);(case hj=>assumption);(case U=>k_upd);k_whole);intro h' F' N';(try dsimp only [List.nil_append,List.cons_append] at N'))
  k_with "exec Assign cons ListComp" => ((fail_if_success have:=@e107_1);k_here;refine Halt.intro ?_)
  trivial
namespace Z3
theorem c_way4_tail:∀ body cs,P_way4_tail w dp un gd a A₀ base p loose mean mg mb L I oI A s R P dl bl ow sp h₀ σ hl x u u' S S' T1 T2 dv dv' dn dn' s_ e_ n_ t3 t4 t5 m nd nb no ns nh s0 s1 r o1 o2 o3 o4 o5 o6 o7 o8 v3 v4 v5 at_ side (k14 32) (k14 14) ts body cs:=by
  intro body cs hb hc hd hu G II hs F m1 m2 m3 N di dz hS9 h1 h2 h3 h4 h5 h6 c1 c2 c3 c4 c5 c6 c7 c8 next
  cases hb
  cases hc
  dsimp only
  refine and17 (II.ne_sp) ?_;intro e_0 e_1 e_2 e_3 e_4 e_5 e_6 e_7 e_8 e_9 e_10 e_11 e_12 e_13 e_14 e_15 e_16
  have fsp:∀ q∈T1++T2,@Ne Nat q.1 sp:=fun q hq=>(II.tt q hq).2.2.2.1
  have nasp:=II.na sp (by k_extra "mem")
  refine oa5 G ?_;(try clear G);intro G0 B X T D
  revert X;k_fill;intro X
  k_steps
  unfold Halt
  refine' homes4 (I:=I) (oI:=oI) (A:=A) (dl:=dl) (bl:=bl) (ow:=ow) (sp:=sp) (x:=x) (hm:=σ.home) (p:=σ.pos) (u:=u) (u':=u') (nh:=nh) (side:=side) (s_:=s_) (e_:=e_) (n_:=n_) (o2:=o2) (o3:=o3) (o4:=o4) (o5:=o5) (t2:=(k14 14)) (t3:=t3) (t4:=t4) (t5:=t5) rfl rfl hd hu B X T F m2 N ?h1 ?hx ?c2 ?c3 ?c4 ?c5 c2 c3 c4 c5 ?_
  (case h1=>k_mem)
  (case hx=>exact all_rows (by k_mem) (by k_mem) (by k_mem) (by k_mem))
  (case c2=>k_mem)
  (case c3=>k_mem)
  (case c4=>k_mem)
  (case c5=>k_mem)
  intro D9 Tn b9 b9' h' tk' F' N' lD lT
  clear N F
  have qsp : @LT.lt Nat _ sp D9:=lD (sp,_) (by k_mem)
  have f_0 : @Ne Nat D9 sp:=Nat.ne_of_gt qsp
  have f_1 : @Ne Nat (Tn 0) sp:=Nat.ne_of_gt (Nat.lt_trans qsp (lT 0 (by decide)))
  have f_2 : @Ne Nat (Tn 1) sp:=Nat.ne_of_gt (Nat.lt_trans qsp (lT 1 (by decide)))
  have f_3 : @Ne Nat (Tn 2) sp:=Nat.ne_of_gt (Nat.lt_trans qsp (lT 2 (by decide)))
  have f_4 : @Ne Nat (Tn 3) sp:=Nat.ne_of_gt (Nat.lt_trans qsp (lT 3 (by decide)))
  k_steps
  rename Fr _ _ _ _=>F9
  rename News _ _ _ _=>N9
  refine oe1 (lap_fresh II hS9 di dz (edit_good II.good hs h1 h2 h3 h4 h6) (edit_pts II.pts h1 h2 h3 h4 h5 h6) N9 F9 lD lT m1 rfl m3 ⟨_,_,_,_,_,_,c1,c2,c3,c4,c5,c7⟩ c6 c8) ?_;intro news9 z0;refine oa2 z0 ?_;(try clear z0);intro N8 J8
  exact next _ _ _ _ _ ⟨G0,B,X,T,D⟩ F9 N8 J8
end Z3
theorem h_83:∀ j,j<83→∀ u,Pf j u:=histS 82 h_82 (gen 82 h_82 (by with_unfolding_all exact Z3.c_way4_tail))
theorem way4_tail {body:List PySem.Stmt} {w:World} {dp un:Nat} {gd:Option (List Code)} {cs:Scope} {a:Addr} {A₀:Around} {base:Heap} {p:Program} {loose:List Str} {mean:ExcName→Option Value} {mg mb:Str→Option Value} {L I:Nat} {oI:Obj} {A:Ad} {s:Shared} {R:Result→Shared→Prop} {P:Flow→Shared→Prop} {dl bl ow sp:Addr} {h₀:Heap} {σ:Sg} {hl:Addr} {x:Int→Addr} {u u':Int→Tok} {S S' T1 T2:Led} {dv dv':List Value} {dn dn':List Int} {s_ e_ n_:Int} {t3 t4 t5:Tok} {m:Str→Option Value} {nd nb no ns nh:Nat} {s0 s1:Tok} {r:Str→Option Value} {o1 o2 o3 o4 o5 o6 o7 o8:Obj} {v3 v4 v5:Option Value} {at_ side:Int} {ta tb ts:Tok} : P_way4_tail w dp un gd a A₀ base p loose mean mg mb L I oI A s R P dl bl ow sp h₀ σ hl x u u' S S' T1 T2 dv dv' dn dn' s_ e_ n_ t3 t4 t5 m nd nb no ns nh s0 s1 r o1 o2 o3 o4 o5 o6 o7 o8 v3 v4 v5 at_ side ta tb ts body cs:=by with_unfolding_all exact h_83 82 (Nat.lt_succ_self 82) (sk0 |>.set 1 0 w |>.set 12 7 dp |>.set 12 8 un |>.set 42 0 gd |>.set 6 14 a |>.set 2 2 A₀ |>.set 5 2 base |>.set 0 1 p |>.set 35 1 loose |>.set 41 0 mean |>.set 7 4 mg |>.set 7 5 mb |>.set 12 19 L |>.set 12 20 I |>.set 16 7 oI |>.set 25 0 A |>.set 4 0 s |>.set 49 0 R |>.set 63 0 P |>.set 6 22 dl |>.set 6 18 bl |>.set 6 20 ow |>.set 6 19 sp |>.set 5 0 h₀ |>.set 28 0 σ |>.set 6 21 hl |>.set 60 0 x |>.set 61 0 u |>.set 61 1 u' |>.set 22 4 S |>.set 22 8 S' |>.set 22 6 T1 |>.set 22 7 T2 |>.set 23 6 dv |>.set 23 7 dv' |>.set 24 2 dn |>.set 24 3 dn' |>.set 15 17 s_ |>.set 15 18 e_ |>.set 15 26 n_ |>.set 14 4 t3 |>.set 14 5 t4 |>.set 14 6 t5 |>.set 7 0 m |>.set 12 21 nd |>.set 12 13 nb |>.set 12 15 no |>.set 12 14 ns |>.set 12 16 nh |>.set 14 26 s0 |>.set 14 27 s1 |>.set 7 8 r |>.set 16 8 o1 |>.set 16 9 o2 |>.set 16 10 o3 |>.set 16 11 o4 |>.set 16 12 o5 |>.set 16 13 o6 |>.set 16 14 o7 |>.set 16 15 o8 |>.set 38 5 v3 |>.set 38 6 v4 |>.set 38 7 v5 |>.set 15 3 at_ |>.set 15 24 side |>.set 14 32 ta |>.set 14 14 tb |>.set 14 33 ts) body cs
theorem e107_1:True:=trivial
end
end Mine
namespace Mine
theorem edit_eq {w:World} {A:Ad} {σ:Sg} {j s e e2 n:Int} {l:Led} (h:e=e2) (S:St w A (σ.edit j s e n) l) : St w A (σ.edit j s e2 n) l:=h ▸ S
section
theorem kw108_1:True:=by
  k_with "call ref" => ((fail_if_success have:=@e108_1);k_here;(with_reducible show wpAny _ _ (call (Value.ref 520) _) _ _ _);k_dflt (refine' Spec.use (law_draw ?y0 ?y1 ?y2 ?y3) ?B ?F ?X ?N ?P ?hr ?T ?hk ?hd ?hu ?_;k_extra "us1";(case y0=>assumption);(case y1=>assumption);(case y2=>first | decide | omega);(case y3=>first | decide | omega);(case hr=>(repeat' first | exact Off.nil | assumption | exact off_st1 ‹_› ‹_› | (refine' Off.append ?_ ?_) | refine' Off.cons ?_ ?_ | exact ni_nil | refine' ni_cons ?_ ?_ | k_ne));k_whole);intro v9 led9 h' tk' hP9;refine oa2 hP9 ?_;(try clear hP9);intro z38 z0;refine oe2 z38 ?_;(try clear z38);intro r9 t9 z0;refine oa3 z0 ?_;(try clear z0);intro hv9 ge9 lt9;refine oe3 z0 ?_;(try clear z0);intro vs9 ns9 c9 z1;refine oa3 z1 ?_;(try clear z1);intro hl9 hdi9 len9;subst hv9;subst hl9;intro F' N';(have hdz9:=Nat.le_trans len9 ‹_›);k_extra "nn")
  k_with "call ref" => ((fail_if_success have:=@e108_1);k_here;(with_reducible show wpAny _ _ (call (Value.ref 501) _) _ _ _);refine Halt.intro ?_)
  k_with "call ref" => ((fail_if_success have:=@e108_1);k_here;(with_reducible show wpAny _ _ (call (Value.ref 508) _) _ _ _);refine Halt.intro ?_)
  k_with "execs cons" => ((fail_if_success have:=@e108_1);k_here;(with_reducible show wpAny _ _ (execs (Stmt.Assign _ (PySem.Expr.ListComp _ _ _ _) _::_) _) _ _ _);refine Halt.intro ?_)
  trivial
namespace Z3
theorem c_way_4:∀ body cs,P_way_4 w dp un gd a A₀ base p loose mean mg mb L I oI A s R P dl bl ow sp h₀ σ hl x u u' S T1 T2 dv dn nd nb no ns nh s0 s1 r o1 o2 o3 o4 o5 o6 o7 o8 v3 v4 v5 at_ side (k14 32) (k14 14) ts body cs:=by
  intro body cs hb XB TB C1 C2 hc hd hu G II hlim ha hs F N c1 c2 c3 c4 c5 c6 c7 c8 next
  cases hb
  cases hc
  dsimp only
  have II0:=II
  refine and17 (II.ne_dl) ?_;intro e_dl_0 e_dl_1 e_dl_2 e_dl_3 e_dl_4 e_dl_5 e_dl_6 e_dl_7 e_dl_8 e_dl_9 e_dl_10 e_dl_11 e_dl_12 e_dl_13 e_dl_14 e_dl_15 e_dl_16
  refine and17 (II.ne_c3) ?_;intro e_c3_0 e_c3_1 e_c3_2 e_c3_3 e_c3_4 e_c3_5 e_c3_6 e_c3_7 e_c3_8 e_c3_9 e_c3_10 e_c3_11 e_c3_12 e_c3_13 e_c3_14 e_c3_15 e_c3_16
  refine and17 (II.ne_c4) ?_;intro e_c4_0 e_c4_1 e_c4_2 e_c4_3 e_c4_4 e_c4_5 e_c4_6 e_c4_7 e_c4_8 e_c4_9 e_c4_10 e_c4_11 e_c4_12 e_c4_13 e_c4_14 e_c4_15 e_c4_16
  refine and17 (II.ne_c5) ?_;intro e_c5_0 e_c5_1 e_c5_2 e_c5_3 e_c5_4 e_c5_5 e_c5_6 e_c5_7 e_c5_8 e_c5_9 e_c5_10 e_c5_11 e_c5_12 e_c5_13 e_c5_14 e_c5_15 e_c5_16
  obtain ⟨ok,hS,hT1,hT2,hdi,hdz,good,pts,lo,lI,lt,na,tt,tn,dis,dix⟩:=II0
  refine oa5 G ?_;(try clear G);intro G0 B X T D
  refine oa8 dis ?_;(try clear dis);intro dis1 dis2 dis3 dis4 dis5 dis6 dis7 z0;refine oa2 z0 ?_;(try clear z0);intro dis8 dis9
  have tsp:TupSpec x σ.home σ.pos u u':=⟨trivial⟩
  have nadl:=na dl (by k_extra "mem")
  have nabl:=na bl (by k_extra "mem")
  have naow:=na ow (by k_extra "mem")
  have nasp:=na sp (by k_extra "mem")
  have nahl:=na hl (by k_extra "mem")
  have nax0:=na (x 0) (by k_extra "mem")
  have nax1:=na (x 1) (by k_extra "mem")
  have nax2:=na (x 2) (by k_extra "mem")
  have nax3:=na (x 3) (by k_extra "mem")
  have naI:I ∉ A.all:=fun h=>(lo I (List.mem_append.mpr (.inr h))).2 rfl
  have nac1:L+1 ∉ A.all:=fun h=>cell_lt (k:=1) (by decide) (lo (L+1) (List.mem_append.mpr (.inr h))).1 rfl
  have nac2:L+1+1 ∉ A.all:=fun h=>cell_lt (k:=2) (by decide) (lo (L+1+1) (List.mem_append.mpr (.inr h))).1 rfl
  have nac3:L+1+1+1 ∉ A.all:=fun h=>cell_lt (k:=3) (by decide) (lo (L+1+1+1) (List.mem_append.mpr (.inr h))).1 rfl
  have nac4:L+1+1+1+1 ∉ A.all:=fun h=>cell_lt (k:=4) (by decide) (lo (L+1+1+1+1) (List.mem_append.mpr (.inr h))).1 rfl
  have nac5:L+1+1+1+1+1 ∉ A.all:=fun h=>cell_lt (k:=5) (by decide) (lo (L+1+1+1+1+1) (List.mem_append.mpr (.inr h))).1 rfl
  have nac6:L+1+1+1+1+1+1 ∉ A.all:=fun h=>cell_lt (k:=6) (by decide) (lo (L+1+1+1+1+1+1) (List.mem_append.mpr (.inr h))).1 rfl
  have nac7:L+1+1+1+1+1+1+1 ∉ A.all:=fun h=>cell_lt (k:=7) (by decide) (lo (L+1+1+1+1+1+1+1) (List.mem_append.mpr (.inr h))).1 rfl
  have nac8:L+1+1+1+1+1+1+1+1 ∉ A.all:=fun h=>cell_lt (k:=8) (by decide) (lo (L+1+1+1+1+1+1+1+1) (List.mem_append.mpr (.inr h))).1 rfl
  have fc1:∀ q∈T1++T2,@Ne Nat q.1 (L+1):=fun q hq=>fcell (k:=1) lt (tt q hq).2.1 (by decide)
  have fc2:∀ q∈T1++T2,@Ne Nat q.1 (L+1+1):=fun q hq=>fcell (k:=2) lt (tt q hq).2.1 (by decide)
  have fc3:∀ q∈T1++T2,@Ne Nat q.1 (L+1+1+1):=fun q hq=>fcell (k:=3) lt (tt q hq).2.1 (by decide)
  have fc4:∀ q∈T1++T2,@Ne Nat q.1 (L+1+1+1+1):=fun q hq=>fcell (k:=4) lt (tt q hq).2.1 (by decide)
  have fc5:∀ q∈T1++T2,@Ne Nat q.1 (L+1+1+1+1+1):=fun q hq=>fcell (k:=5) lt (tt q hq).2.1 (by decide)
  have fc6:∀ q∈T1++T2,@Ne Nat q.1 (L+1+1+1+1+1+1):=fun q hq=>fcell (k:=6) lt (tt q hq).2.1 (by decide)
  have fc7:∀ q∈T1++T2,@Ne Nat q.1 (L+1+1+1+1+1+1+1):=fun q hq=>fcell (k:=7) lt (tt q hq).2.1 (by decide)
  have fc8:∀ q∈T1++T2,@Ne Nat q.1 (L+1+1+1+1+1+1+1+1):=fun q hq=>fcell (k:=8) lt (tt q hq).2.1 (by decide)
  have fdl:∀ q∈T1++T2,@Ne Nat q.1 dl:=fun q hq=>(tt q hq).2.2.1
  have fsp:∀ q∈T1++T2,@Ne Nat q.1 sp:=fun q hq=>(tt q hq).2.2.2.1
  have fhl:∀ q∈T1++T2,@Ne Nat q.1 hl:=fun q hq=>(tt q hq).2.2.2.2.1
  have offT:Off A.all (T1++T2):=fun q hq=>(tt q hq).1
  have oodl:Off [dl] (T1++T2):=fun q hq h=>fdl q hq (List.mem_singleton.mp h)
  revert X;k_fill;intro X
  have hl9:σ.lim≤800:=by omega
  have hz9:=pts side hs
  k_steps
  · rename Fr _ _ _ _=>F9
    rename News _ _ _ _=>N9
    have lA:=fresh_na3 ‹_› hS
    rename (0:Int)≤_→_=_=>ec
    have ec2:=ec (by omega)
    rename (List.toArray (List.flatten (List.replicate _ [Value.int 97 _]))).size=_=>es
    unfold Halt
    refine' Spec.useC (ledx:=[(_,listOf _ _)]) (st_insert ok hs hl9 ?hlc ?hlm ?hp ?hp2 ?hcs hS) B ?F X ?N ?C ?P ?hr T ?hk ?hd ?hu ?_
    (case F=>exact F9)
    (case N=>exact N9)
    (case C=>(repeat' first | exact Cut.here | refine' Cut.step ?_))
    k_extra "pk"
    (case hlc=>exact lA _ (mem_ls hs))
    (case hlm=>exact fun h=>Nat.lt_irrefl _ (lA _ h))
    (case hp=>omega)
    (case hp2=>omega)
    (case hcs=>rw [es];omega)
    (case hk=>rfl)
    (case hd=>ktr_room)
    (case hu=>ktr_units)
    (case hr=>(repeat' first | exact Off.nil | assumption | (refine' Off.append ?_ ?_) | refine' Off.cons ?_ ?_ | exact ni_nil | exact fresh_na ‹_› ‹_›))
    intro v9 led9 h' tk' hP9 F' N'
    refine oa2 hP9 ?_;(try clear hP9);intro hv9 z0;refine oe1 z0 ?_;(try clear z0);intro l9 z1;refine oa2 z1 ?_;(try clear z1);intro hl9' hS9
    subst hv9
    subst hl9'
    clear F9 N9
    replace N':=reorder (a:=[_]) N'
    simp only [List.cons_append,List.nil_append] at N'
    rw [es,ec2.trans (Int.one_mul _)] at hS9
    k_steps
    rename Fr _ _ _ _=>F9
    rename News _ _ _ _=>N8
    rename St _ _ _ _=>S9
    have N9:=News.sub N8 fun q hq=>List.mem_cons_of_mem _ (List.mem_cons_of_mem _ hq)
    rename _=1+_+_=>z1
    unfold Halt
    exact way4_tail (ts:=ts) (v3:=v3) (v4:=v4) (v5:=v5) (r:=r) rfl rfl hd hu ⟨G0,B,X,T,D⟩ II hs F9 rfl rfl rfl N9 ‹_› ‹_› (edit_eq z1 S9) (by omega) (by omega) (by omega) (by omega) (by omega) (by omega) c1 c2 ‹_› ‹_› ‹_› c6 c7 c8 next
  · rename Fr _ _ _ _=>F9
    rename News _ _ _ _=>N9
    unfold Halt
    refine' Spec.useC (ledx:=[]) (st_delete ok hs hl9 ?hp ?hlt ?hp2 _ hS) B ?F X ?N ?C ?P ?hr T ?hk ?hd ?hu ?_
    (case F=>exact F9)
    (case N=>exact N9)
    (case C=>(repeat' first | exact Cut.here | refine' Cut.step ?_))
    k_extra "pk"
    (case hp=>omega)
    (case hlt=>omega)
    (case hp2=>omega)
    (case hk=>rfl)
    (case hd=>ktr_room)
    (case hu=>ktr_units)
    (case hr=>(repeat' first | exact Off.nil | assumption | (refine' Off.append ?_ ?_) | refine' Off.cons ?_ ?_ | exact ni_nil | exact fresh_na ‹_› ‹_›))
    intro v9 led9 h' tk' hP9 F' N'
    refine oe1 hP9 ?_;(try clear hP9);intro σ9 z0;refine oa2 z0 ?_;(try clear z0);intro z39 S9;refine oa2 z39 ?_;(try clear z39);intro z40 hσ9;refine oe1 z40 ?_;(try clear z40);intro r9 hv9
    subst hv9
    rw [hσ9] at S9
    clear hσ9 F9 N9
    replace N':=reorder (a:=[]) N'
    simp only [List.cons_append,List.nil_append] at N'
    k_steps
    rename Fr _ _ _ _=>F9
    rename News _ _ _ _=>N9
    unfold Halt
    exact way4_tail (ts:=ts) (v3:=v3) (v4:=v4) (v5:=v5) (r:=r) rfl rfl hd hu ⟨G0,B,X,T,D⟩ II hs F9 rfl rfl rfl N9 ‹_› ‹_› S9 (by omega) (by omega) (by omega) (by omega) (by omega) (by omega) c1 c2 ‹_› ‹_› ‹_› c6 c7 c8 next
end Z3
theorem h_84:∀ j,j<84→∀ u,Pf j u:=histS 83 h_83 (gen 83 h_83 (by with_unfolding_all exact Z3.c_way_4))
theorem way_4 {body:List PySem.Stmt} {w:World} {dp un:Nat} {gd:Option (List Code)} {cs:Scope} {a:Addr} {A₀:Around} {base:Heap} {p:Program} {loose:List Str} {mean:ExcName→Option Value} {mg mb:Str→Option Value} {L I:Nat} {oI:Obj} {A:Ad} {s:Shared} {R:Result→Shared→Prop} {P:Flow→Shared→Prop} {dl bl ow sp:Addr} {h₀:Heap} {σ:Sg} {hl:Addr} {x:Int→Addr} {u u':Int→Tok} {S T1 T2:Led} {dv:List Value} {dn:List Int} {nd nb no ns nh:Nat} {s0 s1:Tok} {r:Str→Option Value} {o1 o2 o3 o4 o5 o6 o7 o8:Obj} {v3 v4 v5:Option Value} {at_ side:Int} {ta tb ts:Tok} : P_way_4 w dp un gd a A₀ base p loose mean mg mb L I oI A s R P dl bl ow sp h₀ σ hl x u u' S T1 T2 dv dn nd nb no ns nh s0 s1 r o1 o2 o3 o4 o5 o6 o7 o8 v3 v4 v5 at_ side ta tb ts body cs:=by with_unfolding_all exact h_84 83 (Nat.lt_succ_self 83) (sk0 |>.set 1 0 w |>.set 12 7 dp |>.set 12 8 un |>.set 42 0 gd |>.set 6 14 a |>.set 2 2 A₀ |>.set 5 2 base |>.set 0 1 p |>.set 35 1 loose |>.set 41 0 mean |>.set 7 4 mg |>.set 7 5 mb |>.set 12 19 L |>.set 12 20 I |>.set 16 7 oI |>.set 25 0 A |>.set 4 0 s |>.set 49 0 R |>.set 63 0 P |>.set 6 22 dl |>.set 6 18 bl |>.set 6 20 ow |>.set 6 19 sp |>.set 5 0 h₀ |>.set 28 0 σ |>.set 6 21 hl |>.set 60 0 x |>.set 61 0 u |>.set 61 1 u' |>.set 22 4 S |>.set 22 6 T1 |>.set 22 7 T2 |>.set 23 6 dv |>.set 24 2 dn |>.set 12 21 nd |>.set 12 13 nb |>.set 12 15 no |>.set 12 14 ns |>.set 12 16 nh |>.set 14 26 s0 |>.set 14 27 s1 |>.set 7 8 r |>.set 16 8 o1 |>.set 16 9 o2 |>.set 16 10 o3 |>.set 16 11 o4 |>.set 16 12 o5 |>.set 16 13 o6 |>.set 16 14 o7 |>.set 16 15 o8 |>.set 38 5 v3 |>.set 38 6 v4 |>.set 38 7 v5 |>.set 15 3 at_ |>.set 15 24 side |>.set 14 32 ta |>.set 14 14 tb |>.set 14 33 ts) body cs
theorem e108_1:True:=trivial
end
end Mine
namespace Mine
theorem todl_back {h₀ h:Heap} {L:Addr} {p q a1 a2 a3 a4 a5 a6 a7 a8:Addr × Obj} {r:Led} (N:News h₀ L h (p::q::a8::a7::a6::a5::a4::a3::a2::a1::r)) : News h₀ L h (q::a8::a7::a6::a5::a4::a3::a2::a1::p::r):=News.sub N fun z hz=>by
  revert z;k_extra "sb"
theorem mw_fr {h₀ h:Heap} {L:Addr} {m':Str→Option Value} {dl hl sp:Addr} {sz:Value} (F:Fr h₀ L h m') (h0:m' (ofString "size")=some sz) (h1:m' (ofString "deck")=some (.ref dl)) (h2:m' (ofString "homes")=some (.ref hl)) (h3:m' (ofString "spots")=some (.ref sp)) : Fr h₀ L h (fun y=>if y=ofString "size" then some sz else (if y=ofString "deck" then some (.ref dl) else if y=ofString "homes" then some (.ref hl) else if y=ofString "spots" then some (.ref sp) else m' y)):=by
  have e:m'=fun y=>if y=ofString "size" then some sz else (if y=ofString "deck" then some (.ref dl) else if y=ofString "homes" then some (.ref hl) else if y=ofString "spots" then some (.ref sp) else m' y):=by
    funext y
    split
    · rename_i e;rw [e];exact h0
    · exact congrFun (ml_of h1 h2 h3) y
  rw [← e]
  exact F
section
theorem kw109_1:True:=by
  k_with "call ref" => ((fail_if_success have:=@e109_1);k_here;(with_reducible show wpAny _ _ (call (Value.ref 532) _) _ _ _);refine Halt.intro ?_)
  trivial
namespace Z3
theorem c_lap_tail:∀ body cs m,P_lap_tail w dp un gd a A₀ base p loose mean mg mb L I oI A s R P dl bl ow sp h₀ news lim body cs m:=by
  intro body cs m hb XB TB C1 C2 hc hd hu G F N0 J next
  cases hb
  cases hc
  dsimp only
  obtain ⟨σ,hl,x,u,u',S,T1,T2,dv,dn,nd,nb,no,ns,nh,s0,s1,r,o1,o2,o3,o4,o5,o6,o7,o8,II,hlim,rfl,hnews,hcs,c6,c8⟩:=J
  rw [hnews] at N0
  refine oa5 G ?_;(try clear G);intro G0 B X T D
  revert X;k_fill;intro X
  k_steps
  unfold Halt
  refine and19 (II.low II.lt.1) ?_;intro n_I n8 n7 n6 n5 n4 n3 n2 n1 n_dl n_bl n_ow n_sp n_hl n_x0 n_x1 n_x2 n_x3 n_S
  refine' is_so (x:=x) (u:=u) (u':=u') (bl:=bl) (sp:=sp) (ow:=ow) (hl:=hl) (nb:=nb) (ns:=ns) (no:=no) (nh:=nh) (s0:=s0) (s1:=s1) (rest:=(I,oI)::(L+1+1+1+1+1+1+1+1,o8)::(L+1+1+1+1+1+1+1,o7)::(L+1+1+1+1+1+1,o6)::(L+1+1+1+1+1,o5)::(L+1+1+1+1,o4)::(L+1+1+1,o3)::(L+1+1,o2)::(L+1,o1)::(dl,listOf (List.toArray dv) nd)::T2) (outer:=[]) II.ok (fun i hi=>good_home II.good hi) S T1 II.st II.t1 B F X ?N T XB TB D C1 ?hr rfl ?hd ?hu ?ret
  (case N =>
    refine News.sub N0 fun q hq=>?_
    revert q;k_extra "sb")
  (case hr =>
    have tn:=II.tn.2
    exact (by repeat' first | exact ne_nl | assumption | refine ne_app ?_ ?_ | refine ne_con ?_ ?_))
  (case hd=>ktr_room)
  (case hu=>ktr_units)
  case ret =>
    intro T1' h₀' h' tk' hT1' hnew t1 F9 N9 B' X' T' D'
    have II2:=II.tab1 (oI:=oI) (u:=u) (u':=u') (nd:=nd) (nb:=nb) (no:=no) (ns:=ns) (nh:=nh) (s0:=s0) (s1:=s1) (o1:=o1) (o2:=o2) (o3:=o3) (o4:=o4) (o5:=o5) (o6:=o6) (o7:=o7) (o8:=o8) hT1' (fun q hq=>?_) hnew
    · k_steps
      have N7:News h₀' L h' ((I,oI)::(L+1+1+1+1+1+1+1+1,o8)::(L+1+1+1+1+1+1+1,o7)::(L+1+1+1+1+1+1,o6)::(L+1+1+1+1+1,o5)::(L+1+1+1+1,o4)::(L+1+1+1,o3)::(L+1+1,o2)::(L+1,o1)::(dl,listOf (List.toArray dv) nd)::(bl,listOf #[.ref (A.b 0),.ref (A.b 1)] nb)::(ow,listOf #[.ref (A.ma 0),.ref (A.ma 1),.ref (A.ma 2),.ref (A.ma 3)] no)::(sp,listOf #[.int (σ.point 0) s0,.int (σ.point 1) s1] ns)::(hl,listOf #[.ref (x 0),.ref (x 1),.ref (x 2),.ref (x 3)] nh)::(x 0,tupO (σ.home 0) (σ.pos 0) (u 0) (u' 0))::(x 1,tupO (σ.home 1) (σ.pos 1) (u 1) (u' 1))::(x 2,tupO (σ.home 2) (σ.pos 2) (u 2) (u' 2))::(x 3,tupO (σ.home 3) (σ.pos 3) (u 3) (u' 3))::(S++(T1'++T2))):=News.sub N9 fun q hq=>by
        revert q;k_extra "sb"
      refine oe1 (lap_gen (lim:=lim) II2 N7 F9 hlim rfl rfl rfl hcs c6 c8) ?_;intro news9 z0;refine oa2 z0 ?_;(try clear z0);intro N8 J8
      exact next _ _ _ _ _ ⟨G0.trans t1,B',X',T',D'⟩ F9 N8 J8
    · revert q;k_extra "sb"
end Z3
theorem h_85:∀ j,j<85→∀ u,Pf j u:=histS 84 h_84 (gen 84 h_84 (by with_unfolding_all exact Z3.c_lap_tail))
theorem lap_tail {body:List PySem.Stmt} {w:World} {dp un:Nat} {gd:Option (List Code)} {cs:Scope} {a:Addr} {A₀:Around} {base:Heap} {p:Program} {loose:List Str} {mean:ExcName→Option Value} {mg mb:Str→Option Value} {L I:Nat} {oI:Obj} {A:Ad} {s:Shared} {R:Result→Shared→Prop} {P:Flow→Shared→Prop} {dl bl ow sp:Addr} {h₀:Heap} {m:Str→Option Value} {news:Led} {lim:Nat} : P_lap_tail w dp un gd a A₀ base p loose mean mg mb L I oI A s R P dl bl ow sp h₀ news lim body cs m:=by with_unfolding_all exact h_85 84 (Nat.lt_succ_self 84) (sk0 |>.set 1 0 w |>.set 12 7 dp |>.set 12 8 un |>.set 42 0 gd |>.set 6 14 a |>.set 2 2 A₀ |>.set 5 2 base |>.set 0 1 p |>.set 35 1 loose |>.set 41 0 mean |>.set 7 4 mg |>.set 7 5 mb |>.set 12 19 L |>.set 12 20 I |>.set 16 7 oI |>.set 25 0 A |>.set 4 0 s |>.set 49 0 R |>.set 63 0 P |>.set 6 22 dl |>.set 6 18 bl |>.set 6 20 ow |>.set 6 19 sp |>.set 5 0 h₀ |>.set 22 2 news |>.set 12 3 lim) body cs m
theorem e109_1:True:=trivial
end
end Mine
namespace Mine
namespace Z3
theorem c_LapJ_mono:P_LapJ_mono w L I oI A dl bl ow sp lim (k12 24) m news:=by
  intro J h
  obtain ⟨σ,hl,x,u,u',S,T1,T2,dv,dn,nd,nb,no,ns,nh,s0,s1,r,o1,o2,o3,o4,o5,o6,o7,o8,II,hlim,z1,z2,z3,z4,z5⟩:=J
  exact ⟨σ,hl,x,u,u',S,T1,T2,dv,dn,nd,nb,no,ns,nh,s0,s1,r,o1,o2,o3,o4,o5,o6,o7,o8,II,Nat.le_trans hlim h,z1,z2,z3,z4,z5⟩
end Z3
theorem h_86:∀ j,j<86→∀ u,Pf j u:=histS 85 h_85 (gen 85 h_85 (by with_unfolding_all exact Z3.c_LapJ_mono))
theorem LapJ.mono {w:World} {L I:Nat} {oI:Obj} {A:Ad} {dl bl ow sp:Addr} {lim lim2:Nat} {m:Str→Option Value} {news:Led} : P_LapJ_mono w L I oI A dl bl ow sp lim lim2 m news:=by with_unfolding_all exact h_86 85 (Nat.lt_succ_self 85) (sk0 |>.set 1 0 w |>.set 12 19 L |>.set 12 20 I |>.set 16 7 oI |>.set 25 0 A |>.set 6 22 dl |>.set 6 18 bl |>.set 6 20 ow |>.set 6 19 sp |>.set 12 3 lim |>.set 12 24 lim2 |>.set 7 0 m |>.set 22 2 news)
section
theorem kw110_1:True:=by
  k_with "arith" => ((fail_if_success have:=@e110_1);k_whole;k_extra "ar2")
  k_with "getMethod ref" => ((fail_if_success have:=@e110_1);k_here;(with_reducible show wpAny _ _ (getMethod (Value.ref (Ad.b _ _)) (ofString "size") _) _ _ _);k_dflt (refine' st_msize ?S ?F ?X ?N ?l ?i ?_;(case S=>assumption);(case F=>k_asm);(case X=>k_asm);(case N=>k_asm);(case l=>(k_extra "opq"));(case i=>first | assumption | decide | exact sides_of ‹_› ‹_›));k_whole)
  k_with "subscriptTail Name Name ref int" => ((fail_if_success have:=@e110_1);k_here;k_dflt (refine' sub_both ?N ?o ?l ?v ?_ ?s ?t;(case o=>assumption);(case N=>k_asm);(case l=>k_mem);(case v=>first | assumption | decide | exact sides_of ‹_› ‹_›);k_extra "tl"))
  k_with "call ref" => ((fail_if_success have:=@e110_1);k_here;(with_reducible show wpAny _ _ (call (Value.ref 376) _) _ _ _);k_dflt (refine' Spec.useC (ledx:=[]) (st_size ?y0 ?y1 ?y2 _ ?hS) ?B ?F ?X ?N ?C ?P ?hr ?T ?hk ?hd ?hu ?_;(case B=>k_asm);(case F=>k_asm);(case X=>k_asm);(case hS=>assumption);(case N=>exact News.sub ‹_› (fun q hq=>List.mem_cons_of_mem _ hq));(case C=>(repeat' first | exact Cut.here | refine' Cut.step ?_));k_extra "pk";k_extra "us5";(case y0=>assumption);(case y1=>first | assumption | decide | exact sides_of ‹_› ‹_›);(case y2=>assumption);(case hr=>k_extra "h1");k_whole);intro v9 led9 h' tk' hP9;refine oe1 hP9 ?_;(try clear hP9);intro σ9 z0;refine oa2 z0 ?_;(try clear z0);intro z41 hS9;refine oa2 z41 ?_;(try clear z41);intro z42 hσ9;refine oe1 z42 ?_;(try clear z42);intro t9 hv9;subst hv9;intro F' N';rw [hσ9] at hS9;clear hσ9;(replace N':=reorder (a:=[]) N');k_extra "nn")
  k_with "execs cons" => ((fail_if_success have:=@e110_1);k_here;(with_reducible show wpAny _ _ (execs (Stmt.Assign [PySem.Expr.Name (ofString "place") _] _ _::_) _) _ _ _);refine Halt.intro ?_)
  k_with "execs cons" => ((fail_if_success have:=@e110_1);k_here;(with_reducible show wpAny _ _ (execs (Stmt.Expr (PySem.Expr.Call (PySem.Expr.Name (ofString "set_marker") _) _ _ _) _::_) _) _ _ _);refine Halt.intro ?_)
  k_with "execs cons" => ((fail_if_success have:=@e110_1);k_here;(with_reducible show wpAny _ _ (execs (Stmt.Assign [PySem.Expr.Name (ofString "other") _] _ _::_) _) _ _ _);refine Halt.intro ?_)
  k_with "execs cons" => ((fail_if_success have:=@e110_1);k_here;(with_reducible show wpAny _ _ (execs (Stmt.Assign [PySem.Expr.Name (ofString "start") _] _ _::_) _) _ _ _);refine Halt.intro ?_)
  k_with "execs cons" => ((fail_if_success have:=@e110_1);k_here;(with_reducible show wpAny _ _ (execs (Stmt.If (PySem.Expr.Compare (PySem.Expr.Subscript _ _ _) _ _ _) _ _ _::_) _) _ _ _);refine Halt.intro ?_)
  k_with "execs cons" => ((fail_if_success have:=@e110_1);k_here;(with_reducible show wpAny _ _ (execs (Stmt.If (PySem.Expr.BoolOp _ _ _) _ _ _::_) _) _ _ _);refine Halt.intro ?_)
  k_with "execs cons" => ((fail_if_success have:=@e110_1);k_here;(with_reducible show wpAny _ _ (execs (Stmt.If (PySem.Expr.UnaryOp _ _ _) _ _ _::_) _) _ _ _);refine Halt.intro ?_)
  trivial
namespace Z3
theorem c_lap:∀ body cs m,P_lap w dp un gd a A₀ base p loose mean mg mb L I oI A s R P dl bl ow sp h₀ news lim (k10 0) body cs m:=by
  intro body cs m hb XB TB C1 C2 hc hd hu G F N0 J hl7 next
  cases hb
  cases hc
  dsimp only
  obtain ⟨σ,hl,x,u,u',S,T1,T2,dv,dn,nd,nb,no,ns,nh,s0,s1,r,o1,o2,o3,o4,o5,o6,o7,o8,II,hlim,rfl,hnews,⟨v1,v2,v3,v4,v5,v7,c1,c2,c3,c4,c5,c7⟩,c6,c8⟩:=J
  rw [hnews] at N0
  clear hnews
  refine and17 (II.ne_dl) ?_;intro e_dl_0 e_dl_1 e_dl_2 e_dl_3 e_dl_4 e_dl_5 e_dl_6 e_dl_7 e_dl_8 e_dl_9 e_dl_10 e_dl_11 e_dl_12 e_dl_13 e_dl_14 e_dl_15 e_dl_16
  refine and17 (II.ne_c1) ?_;intro e_c1_0 e_c1_1 e_c1_2 e_c1_3 e_c1_4 e_c1_5 e_c1_6 e_c1_7 e_c1_8 e_c1_9 e_c1_10 e_c1_11 e_c1_12 e_c1_13 e_c1_14 e_c1_15 e_c1_16
  refine and17 (II.ne_c2) ?_;intro e_c2_0 e_c2_1 e_c2_2 e_c2_3 e_c2_4 e_c2_5 e_c2_6 e_c2_7 e_c2_8 e_c2_9 e_c2_10 e_c2_11 e_c2_12 e_c2_13 e_c2_14 e_c2_15 e_c2_16
  refine and17 (II.ne_c7) ?_;intro e_c7_0 e_c7_1 e_c7_2 e_c7_3 e_c7_4 e_c7_5 e_c7_6 e_c7_7 e_c7_8 e_c7_9 e_c7_10 e_c7_11 e_c7_12 e_c7_13 e_c7_14 e_c7_15 e_c7_16
  have ok:=II.ok
  have hS:=II.st
  have hdi:=II.di
  have hdz:=II.dz
  have lI:=II.lI
  have nadl:=II.na dl (by k_extra "mem")
  have fdl:∀ q∈T1++T2,@Ne Nat q.1 dl:=fun q hq=>(II.tt q hq).2.2.1
  have nac1:L+1 ∉ A.all:=fun h=>cell_lt (k:=1) (by decide) (II.lo (L+1) (List.mem_append.mpr (.inr h))).1 rfl
  have fc1:∀ q∈T1++T2,@Ne Nat q.1 (L+1):=fun q hq=>fcell (k:=1) II.lt (II.tt q hq).2.1 (by decide)
  have nac2:L+1+1 ∉ A.all:=fun h=>cell_lt (k:=2) (by decide) (II.lo (L+1+1) (List.mem_append.mpr (.inr h))).1 rfl
  have fc2:∀ q∈T1++T2,@Ne Nat q.1 (L+1+1):=fun q hq=>fcell (k:=2) II.lt (II.tt q hq).2.1 (by decide)
  have nac7:L+1+1+1+1+1+1+1 ∉ A.all:=fun h=>cell_lt (k:=7) (by decide) (II.lo (L+1+1+1+1+1+1+1) (List.mem_append.mpr (.inr h))).1 rfl
  have fc7:∀ q∈T1++T2,@Ne Nat q.1 (L+1+1+1+1+1+1+1):=fun q hq=>fcell (k:=7) II.lt (II.tt q hq).2.1 (by decide)
  have nac3:L+1+1+1 ∉ A.all:=fun h=>cell_lt (k:=3) (by decide) (II.lo (L+1+1+1) (List.mem_append.mpr (.inr h))).1 rfl
  have nac4:L+1+1+1+1 ∉ A.all:=fun h=>cell_lt (k:=4) (by decide) (II.lo (L+1+1+1+1) (List.mem_append.mpr (.inr h))).1 rfl
  have nac5:L+1+1+1+1+1 ∉ A.all:=fun h=>cell_lt (k:=5) (by decide) (II.lo (L+1+1+1+1+1) (List.mem_append.mpr (.inr h))).1 rfl
  have nac6:L+1+1+1+1+1+1 ∉ A.all:=fun h=>cell_lt (k:=6) (by decide) (II.lo (L+1+1+1+1+1+1) (List.mem_append.mpr (.inr h))).1 rfl
  have nac8:L+1+1+1+1+1+1+1+1 ∉ A.all:=fun h=>cell_lt (k:=8) (by decide) (II.lo (L+1+1+1+1+1+1+1+1) (List.mem_append.mpr (.inr h))).1 rfl
  have nabl:=II.na bl (by k_extra "mem")
  have naow:=II.na ow (by k_extra "mem")
  have nasp:=II.na sp (by k_extra "mem")
  have nahl:=II.na hl (by k_extra "mem")
  have nax0:=II.na (x 0) (by k_extra "mem")
  have nax1:=II.na (x 1) (by k_extra "mem")
  have nax2:=II.na (x 2) (by k_extra "mem")
  have nax3:=II.na (x 3) (by k_extra "mem")
  have naI:I ∉ A.all:=fun h=>(II.lo I (List.mem_append.mpr (.inr h))).2 rfl
  have offT:Off A.all (T1++T2):=fun q hq=>(II.tt q hq).1
  have oodl:Off [dl] (T1++T2):=fun q hq h=>fdl q hq (List.mem_singleton.mp h)
  have hl9:σ.lim≤800:=by omega
  have hl7':σ.lim≤700:=by omega
  refine oa5 G ?_;(try clear G);intro G0 B X T D
  revert X;k_fill;intro X
  k_steps
  · rename Fr _ _ _ _=>F9
    rename News _ _ _ _=>N9
    rename St _ _ _ _=>S9
    have N8:=todl_back (News.sub N9 fun q hq=>List.mem_cons_of_mem _ hq)
    have F8:=mw_fr F9 rfl rfl rfl rfl
    clear F9 N9
    unfold Halt
    refine' way_0 rfl XB TB C1 C2 rfl hd hu ⟨G0,B,X,T,D⟩ (II.same S9 ?di ?dz II.good II.pts) hl7' ?ha ?hs F8 N8 ?c1 ?c2 c3 c4 c5 c6 ?c7 c8 ?_
    (case c1=>assumption)
    (case c2=>assumption)
    (case c7=>assumption)
    (case di=>assumption)
    (case dz=>assumption)
    (case ha=>exact ids_of ‹_› ‹_›)
    (case hs=>exact sides_of ‹_› ‹_›)
    intro h₀' h' tk' m' news' G' F' N' J'
    clear F8 N8
    k_steps
    unfold Halt
    exact lap_tail rfl XB TB C1 C2 rfl hd hu G' F' N' (J'.mono (Nat.add_le_add_right hlim 18)) next
  · rename Fr _ _ _ _=>F9
    rename News _ _ _ _=>N9
    rename St _ _ _ _=>S9
    have N8:=todl_back (News.sub N9 fun q hq=>List.mem_cons_of_mem _ hq)
    have F8:=mw_fr F9 rfl rfl rfl rfl
    clear F9 N9
    unfold Halt
    refine' way_2 rfl XB TB C1 C2 rfl hd hu ⟨G0,B,X,T,D⟩ (II.same S9 ?di ?dz II.good II.pts) hl7' ?ha ?hs F8 N8 ?c1 ?c2 c3 c4 c5 c6 ?c7 c8 ?_
    (case c1=>assumption)
    (case c2=>assumption)
    (case c7=>assumption)
    (case di=>assumption)
    (case dz=>assumption)
    (case ha=>exact ids_of ‹_› ‹_›)
    (case hs=>exact sides_of ‹_› ‹_›)
    intro h₀' h' tk' m' news' G' F' N' J'
    clear F8 N8
    k_steps
    unfold Halt
    exact lap_tail rfl XB TB C1 C2 rfl hd hu G' F' N' (J'.mono (Nat.add_le_add_right hlim 18)) next
  · rename Fr _ _ _ _=>F9
    rename News _ _ _ _=>N9
    rename St _ _ _ _=>S9
    have N8:=todl_back (News.sub N9 fun q hq=>List.mem_cons_of_mem _ hq)
    have F8:=mw_fr F9 rfl rfl rfl rfl
    clear F9 N9
    unfold Halt
    refine' way_3 rfl XB TB C1 C2 rfl hd hu ⟨G0,B,X,T,D⟩ (II.same S9 ?di ?dz II.good II.pts) hl7' ?ha ?hs F8 N8 ?c1 ?c2 c3 c4 c5 c6 ?c7 c8 ?_
    (case c1=>assumption)
    (case c2=>assumption)
    (case c7=>assumption)
    (case di=>assumption)
    (case dz=>assumption)
    (case ha=>exact ids_of ‹_› ‹_›)
    (case hs=>exact sides_of ‹_› ‹_›)
    intro h₀' h' tk' m' news' G' F' N' J'
    clear F8 N8
    k_steps
    unfold Halt
    exact lap_tail rfl XB TB C1 C2 rfl hd hu G' F' N' (J'.mono (Nat.add_le_add_right hlim 18)) next
  · rename Fr _ _ _ _=>F9
    rename News _ _ _ _=>N9
    rename St _ _ _ _=>S9
    have N8:=todl_back (News.sub N9 fun q hq=>List.mem_cons_of_mem _ hq)
    have F8:=mw_fr F9 rfl rfl rfl rfl
    clear F9 N9
    unfold Halt
    refine' way_4 rfl XB TB C1 C2 rfl hd hu ⟨G0,B,X,T,D⟩ (II.same S9 ?di ?dz II.good II.pts) hl7' ?ha ?hs F8 N8 ?c1 ?c2 c3 c4 c5 c6 ?c7 c8 ?_
    (case c1=>assumption)
    (case c2=>assumption)
    (case c7=>assumption)
    (case di=>assumption)
    (case dz=>assumption)
    (case ha=>exact ids_of ‹_› ‹_›)
    (case hs=>exact sides_of ‹_› ‹_›)
    intro h₀' h' tk' m' news' G' F' N' J'
    clear F8 N8
    k_steps
    unfold Halt
    exact lap_tail rfl XB TB C1 C2 rfl hd hu G' F' N' (J'.mono (Nat.add_le_add_right hlim 18)) next
  · rename Fr _ _ _ _=>F9
    rename News _ _ _ _=>N9
    rename St _ _ _ _=>S9
    have N8:=todl_back (News.sub N9 fun q hq=>List.mem_cons_of_mem _ hq)
    have F8:=mw_fr F9 rfl rfl rfl rfl
    clear F9 N9
    unfold Halt
    refine' way_5 rfl XB TB C1 C2 rfl hd hu ⟨G0,B,X,T,D⟩ (II.same S9 ?di ?dz II.good II.pts) hl7' ?ha ?hs F8 N8 ?c1 ?c2 c3 c4 c5 c6 ?c7 c8 ?_
    (case c1=>assumption)
    (case c2=>assumption)
    (case c7=>assumption)
    (case di=>assumption)
    (case dz=>assumption)
    (case ha=>exact ids_of ‹_› ‹_›)
    (case hs=>exact sides_of ‹_› ‹_›)
    intro h₀' h' tk' m' news' G' F' N' J'
    clear F8 N8
    k_steps
    unfold Halt
    exact lap_tail rfl XB TB C1 C2 rfl hd hu G' F' N' (J'.mono (Nat.add_le_add_right hlim 18)) next
  · rename Fr _ _ _ _=>F9
    rename News _ _ _ _=>N9
    rename St _ _ _ _=>S9
    have N8:=todl_back (News.sub N9 fun q hq=>List.mem_cons_of_mem _ hq)
    have F8:=mw_fr F9 rfl rfl rfl rfl
    clear F9 N9
    unfold Halt
    refine' way_6 rfl XB TB C1 C2 rfl hd hu ⟨G0,B,X,T,D⟩ (II.same S9 ?di ?dz II.good II.pts) hl7' ?ha ?hs F8 N8 ?c1 ?c2 c3 c4 c5 c6 ?c7 c8 ?_
    (case c1=>assumption)
    (case c2=>assumption)
    (case c7=>assumption)
    (case di=>assumption)
    (case dz=>assumption)
    (case ha=>exact ids_of ‹_› ‹_›)
    (case hs=>exact sides_of ‹_› ‹_›)
    intro h₀' h' tk' m' news' G' F' N' J'
    clear F8 N8
    k_steps
    unfold Halt
    exact lap_tail rfl XB TB C1 C2 rfl hd hu G' F' N' (J'.mono (Nat.add_le_add_right hlim 18)) next
end Z3
theorem h_87:∀ j,j<87→∀ u,Pf j u:=histS 86 h_86 (gen 86 h_86 (by with_unfolding_all exact Z3.c_lap))
theorem lap {body:List PySem.Stmt} {w:World} {dp un:Nat} {gd:Option (List Code)} {cs:Scope} {a:Addr} {A₀:Around} {base:Heap} {p:Program} {loose:List Str} {mean:ExcName→Option Value} {mg mb:Str→Option Value} {L I:Nat} {oI:Obj} {A:Ad} {s:Shared} {R:Result→Shared→Prop} {P:Flow→Shared→Prop} {dl bl ow sp:Addr} {h₀:Heap} {m:Str→Option Value} {news:Led} {lim:Nat} {vl:Value} : P_lap w dp un gd a A₀ base p loose mean mg mb L I oI A s R P dl bl ow sp h₀ news lim vl body cs m:=by with_unfolding_all exact h_87 86 (Nat.lt_succ_self 86) (sk0 |>.set 1 0 w |>.set 12 7 dp |>.set 12 8 un |>.set 42 0 gd |>.set 6 14 a |>.set 2 2 A₀ |>.set 5 2 base |>.set 0 1 p |>.set 35 1 loose |>.set 41 0 mean |>.set 7 4 mg |>.set 7 5 mb |>.set 12 19 L |>.set 12 20 I |>.set 16 7 oI |>.set 25 0 A |>.set 4 0 s |>.set 49 0 R |>.set 63 0 P |>.set 6 22 dl |>.set 6 18 bl |>.set 6 20 ow |>.set 6 19 sp |>.set 5 0 h₀ |>.set 22 2 news |>.set 12 3 lim |>.set 10 0 vl) body cs m
theorem e110_1:True:=trivial
end
end Mine
namespace Mine
open PyProof.V PyProof.Rows.LCg
section
variable {prog:Program} {w:World} {A:Around} {E:Value→Shared→Prop} {s:Shared} {env:Env} {h₀:Heap} {L:Addr}
end
section
namespace Z0
theorem c_compS:∀ A a P St xy,P_compS (k0 0) w E s env h₀ L (k8 3) (k8 4) (k56 1) (k43 1) cl (k56 0) m news (k65 0) I fp wr n (k54 1) Lo J A a P St xy:=by
  intro A a P St xy W hh hP hself hLf hfp hfp0 hwr hLo hlo hst hz F N hcell hkind hxa J0 step done
  refine wpAny_newObj_type (wpAny_newFunctionEnv hcell (by intro y hy;simp at hy) (fun h₁ hns₁ hsb₁=>?_) hkind)
  dsimp only at hns₁ hsb₁ ⊢
  generalize hH2:s.heap.push { cls:=.type "list",dict:=none,data:=.seq ([] : List Value).toArray }=H2 at hns₁ hsb₁ ⊢
  have hC:H2.objs.size=s.heap.objs.size+1:=by rw [← hH2,Heap.size_push]
  have hDC:s.heap.objs.size≠H2.objs.size:=by rw [hC];exact Nat.ne_of_lt (Nat.lt_succ_self _)
  have hDlt:s.heap.objs.size<H2.objs.size:=by rw [hC];exact Nat.lt_succ_self _
  have below:∀ b,b<s.heap.objs.size→b≠H2.objs.size∧b≠s.heap.objs.size:=fun b hb=>⟨by rw [hC];exact Nat.ne_of_lt (Nat.lt_succ_of_lt hb),Nat.ne_of_lt hb⟩
  have old:∀ b o,s.heap.get? b=some o→h₁.get? b=some o:=fun b o e=>hsb₁.extBut b o (below b (Heap.lt_size e)).1 (Heap.get?_push_of_some _ (hH2 ▸ Heap.get?_push_of_some _ e))
  have hacc:h₁.get? s.heap.objs.size=some (lst []):=hsb₁.extBut _ _ hDC (Heap.get?_push_of_some _ (hH2 ▸ Heap.get?_push_size _ rfl))
  have hst₁:St 0 h₁:=W.frame _ _ _ hst fun b _ o e=>old b o e
  have fresh₀:∀ b:Nat,s.heap.objs.size≤b→h₀.get? b=none:=fun b hb=>kts_none F.keep (Heap.get?_none_of_le hb)
  have hD₀:h₀.get? s.heap.objs.size=none:=fresh₀ _ (Nat.le_refl _)
  have hC₀:h₀.get? H2.objs.size=none:=fresh₀ _ (by rw [hC];exact Nat.le_succ _)
  have hLlt:L<s.heap.objs.size:=F.ns.lt
  have hDL:s.heap.objs.size≠L:=Ne.symm (below L hLlt).2
  have hCL:H2.objs.size≠L:=Ne.symm (below L hLlt).1
  have fD:s.heap.objs.size ∉ fp:=fun h=>absurd (hfp _ h) (Nat.lt_irrefl _)
  have fC:H2.objs.size ∉ fp:=fun h=>absurd (hfp _ h) (by rw [hC];exact Nat.not_lt.mpr (Nat.le_succ _))
  have wD:s.heap.objs.size ∉ wr:=fun h=>fD (W.sub _ h)
  have wC:H2.objs.size ∉ wr:=fun h=>fC (W.sub _ h)
  have wL:L ∉ wr:=fun h=>hLf (W.sub _ h)
  have ap:∀ nw:Led,(∀ p∈nw,@LT.lt Nat _ p.1 Lo∨@LT.lt Nat _ H2.objs.size p.1)→∀ p∈nw,p.1 ∉ wr∧p.1≠s.heap.objs.size∧p.1≠H2.objs.size:=fun nw h p hp=>by
    have h1:=h p hp
    refine ⟨fun hm=>?_,fun e=>?_,fun e=>?_⟩
    · have h2:=hwr _ hm
      omega
    · rw [show p.1=s.heap.objs.size from e] at h1
      rcases h1 with z | z
      · exact absurd z (Nat.not_lt.mpr hLo)
      · exact Nat.lt_irrefl _ (Nat.lt_trans hDlt z)
    · rw [show p.1=H2.objs.size from e] at h1
      rcases h1 with z | z
      · exact absurd z (Nat.not_lt.mpr (Nat.le_trans hLo (Nat.le_of_lt hDlt)))
      · exact Nat.lt_irrefl _ z
  have wold:∀ b o,h₀.get? b=some o→b ∉ wr:=fun b o e hb=>by rw [hfp0 _ (W.sub _ hb)] at e;cases e
  have loop:∀ s₃:Shared,s₃={ s with heap:=h₁,toks:=s.toks+([] : List (Str × Value)).length } →
      codeAny (model (k0 0) w) A (.compLoop (.ListComp (k8 3) [⟨.Name a (k56 1),(k8 4),[],0⟩] (k43 1) (k56 0)) 0 (.ref I) (.ref s.heap.objs.size) (compEnvC (k43 1) cl H2.objs.size env))
        ((k65 0) (.ref s.heap.objs.size) H2.objs.size) s₃:=by
    rintro s₃ rfl
    refine kcp_loop
      (fun k s'=>∃ h' tk i zs m' nw,s'={ s with heap:=h',toks:=tk }∧i≤n∧k=n+1-i∧zs.length=i∧St i h'∧Fr h₀ L h' m∧h'.Ns H2.objs.size m'∧News h₀ L h' ((s.heap.objs.size,lst zs)::nw)∧(∀ p∈nw,@LT.lt Nat _ p.1 Lo∨@LT.lt Nat _ H2.objs.size p.1)∧J i zs nw) ?_ (n+1)
      ⟨h₁,_,0,[],_,news,rfl,Nat.zero_le _,rfl,rfl,hst₁,F.keeps old,hns₁,fun p hp=>?_,fun p hp=>.inl (hlo p hp),J0⟩
    · rintro k s' ⟨h',tk,i,zs,m',nw,rfl,hi,rfl,hyl,hst',F',hn',N',hnw,hJ⟩
      have D':=N' _ List.mem_cons_self
      have Nn:News h₀ L h' nw:=fun q hq=>N' q (List.mem_cons_of_mem _ hq)
      have apn:=ap nw hnw
      by_cases hlt:i<n
      · refine W.item i _ _ _ hlt hst' fun v h₂ tk₂ hMd hk₂=>?_
        refine W.go i v _ _ _ hMd fun h₃ hP₃ hst₃ hk₃=>?_
        have hxy:=hP _ _ _ hP₃
        have up₃:∀ c o,c ∉ wr→h'.get? c=some o→h₃.get? c=some o:=fun c o hc e=>hk₃ c o hc (hk₂ c o hc e)
        refine wpAny_assign_Name (wpAny_storeName_local (lookup_relabel_local hxa) (hn'.at' fun o e=>up₃ _ o wC e) (fun h₄ hn₄ hb₄=>?_) (by simp [compEnvC,relabel,hkind]))
        have hs₄:∀ c o,c≠H2.objs.size→h₃.get? c=some o→h₄.get? c=some o:=fun c o hc e=>hb₄.extBut c o hc e
        have up:∀ c o,c ∉ wr→c≠H2.objs.size→h'.get? c=some o→h₄.get? c=some o:=fun c o h1 h2 e=>hs₄ c o h2 (up₃ c o h1 e)
        have hst₄:St (i+1) h₄:=W.frame _ _ _ hst₃ fun b hb o e=>hs₄ b o (fun z=>fC ((show b=H2.objs.size from z) ▸ hb)) e
        refine oe1 (ns_obj hn₄) ?_;intro oC z0;refine oa2 z0 ?_;(try clear z0);intro heC hoC
        have F₄:Fr h₀ L h₄ m:=⟨F'.ns.at' fun o e=>up _ o wL (Ne.symm hCL) e,fun c o e=>up c o (wold c o e) (fun q=>by rw [q,hC₀] at e;cases e) (F'.keep c o e),F'.above⟩
        have Nown:News h₀ L h₄ (PyProof.Rows.ownOf h₀ fp h₄):=news_ownOf hLf
        have N₅:News h₀ L h₄ ((H2.objs.size,oC)::(s.heap.objs.size,lst zs)::(nw++PyProof.Rows.ownOf h₀ fp h₄)):=fun q hq=>by
          rcases List.mem_cons.mp hq with rfl | hq
          · exact ⟨heC,hCL,hC₀⟩
          · rcases List.mem_cons.mp hq with rfl | hq
            · exact ⟨up _ _ wD hDC D'.1,D'.2⟩
            · rcases List.mem_append.mp hq with hq | hq
              · exact ⟨up _ _ (apn q hq).1 (apn q hq).2.2 (Nn q hq).1,(Nn q hq).2⟩
              · exact Nown q hq
        refine step i v zs _ oC _ _ h₄ _ nw _ hlt hxy hJ hoC (by simp) F₄ N₅ hnw hLo hDlt _ _ fun v h₅ tk₅ nw' F₅ N₆ hnw' hJ'=>?_
        have zD:=N₆ (s.heap.objs.size,lst zs) (.tail _ (.head _))
        have zC:=N₆ (H2.objs.size,oC) (.head _)
        have apn':=ap nw' hnw'
        refine append_at (hsz:=by show zs.toArray.size≤sizeLine;rw [List.size_toArray,hyl];exact Nat.le_trans hi hz) zD.1 fun h₆ hs₆ hD₆=>?_
        refine ⟨n+1-(i+1),dec hlt,h₆,_,i+1,zs++[v],_,nw',rfl,hlt,rfl,by rw [List.length_append,List.length_singleton,hyl],?_,F₅.change hs₆ hDL hD₀,hoC.ns (hs₆.extBut _ oC (Ne.symm hDC) zC.1),fun q hq=>?_,hnw',hJ'⟩
        · refine W.frame _ _ _ hst₄ fun b hb o e=>?_
          have mem:=N₆ (b,o) (.tail _ (.tail _ (List.mem_append.mpr (.inr (mem_ownOf hb (hfp0 b hb) e)))))
          exact hs₆.extBut b o (fun z=>fD (z ▸ hb)) mem.1
        · rcases List.mem_cons.mp hq with rfl | hq
          · exact ⟨hD₆.trans (congrArg some (lst_snoc zs v)),hDL,hD₀⟩
          · have z:=N₆ q (.tail _ (.tail _ (List.mem_append.mpr (.inl hq))))
            exact ⟨hs₆.extBut _ _ (apn' q hq).2.1 z.1,z.2⟩
      · have hin:i=n:=Nat.le_antisymm hi (Nat.not_lt.mp hlt)
        subst hin
        refine W.done _ _ _ hst' fun h₂ tk₂ hk₂=>?_
        have F₂:Fr h₀ L h₂ m:=⟨F'.ns.at' fun o e=>hk₂ _ o wL e,fun c o e=>hk₂ c o (wold c o e) (F'.keep c o e),F'.above⟩
        refine done _ _ zs nw h₂ tk₂ m' hJ F₂ (fun q hq=>?_) hnw hLo hDlt (hn'.at' fun o e=>hk₂ _ o wC e) hCL hC₀
        rcases List.mem_cons.mp hq with rfl | hq
        · exact ⟨hk₂ _ _ wD D'.1,D'.2⟩
        · exact ⟨hk₂ _ _ (apn q hq).1 (Nn q hq).1,(Nn q hq).2⟩
    · rcases List.mem_cons.mp hp with rfl | hp
      · exact ⟨hacc,hDL,hD₀⟩
      · exact ⟨old _ _ (N p hp).1,(N p hp).2⟩
  exact codeAny_compStart_list (loop _ rfl) (hself _ _ _ hst₁ (loop _ rfl))
end Z0
theorem h_88:∀ j,j<88→∀ u,Pf j u:=histS 87 h_87 (gen 87 h_87 (by with_unfolding_all exact Z0.c_compS))
theorem compS {prog:Program} {w:World} {A:Around} {E:Value→Shared→Prop} {s:Shared} {env:Env} {h₀:Heap} {L:Addr} {elt iter:PySem.Expr} {a:Str} {pa:Pos} {scope:Scope} {cl:List (Prod Str Addr)} {pos:Pos} {m:Str→Option Value} {news:Led} {RR:Value→Addr→Result→Shared→Prop} {I:Addr} {fp wr:List Addr} {n:Nat} {P Md:Nat→Value→Heap→Prop} {St:Nat→Heap→Prop} (W:KTurns prog w A (.Name a pa) I fp wr n P Md St) (hh:A.handled=none) (xy:Nat→Value→Prop) (hP:∀ i v h,P i v h→xy i v) (hself:∀ (s':Shared) (E':Value→Shared→Prop) (Q':Value→Shared→Prop),St 0 s'.heap→Q' (.ref I) s'→wpAny (model prog w) A (pyIter (.ref I)) Q' E' s') (Lo:Nat) (hLf:L ∉ fp) (hfp:∀ b∈fp,@LT.lt Nat _ b s.heap.objs.size) (hfp0:∀ b∈fp,h₀.get? b=none) (hwr:∀ b∈wr,@LE.le Nat _ Lo b∧@LT.lt Nat _ b s.heap.objs.size) (hLo:Lo≤s.heap.objs.size) (hlo:∀ p∈news,@LT.lt Nat _ p.1 Lo) (hst:St 0 s.heap) (hz:n≤sizeLine) (F:Fr h₀ L s.heap m) (N:News h₀ L s.heap news) (hcell:∀ y∈scope.names,y.2≠.cell) (hkind:scope.kind=.function) (hxa:scope.names.lookup a=some .local) (J:Nat→List Value→Led→Prop) (J0:J 0 [] news) (step:∀ i x zs C oC D m₂ h tk nw own,i<n→xy i x→J i zs nw→NsObj oC m₂→m₂ a=some x→Fr h₀ L h m→News h₀ L h ((C,oC)::(D,lst zs)::(nw++own))→(∀ p∈nw,@LT.lt Nat _ p.1 Lo∨@LT.lt Nat _ C p.1)→@LE.le Nat _ Lo D→@LT.lt Nat _ D C →
      ∀ (P1:Value→Shared→Prop) (E':Value→Shared→Prop),(∀ v h' tk' nw',Fr h₀ L h' m→News h₀ L h' ((C,oC)::(D,lst zs)::(nw'++own))→(∀ p∈nw',@LT.lt Nat _ p.1 Lo∨@LT.lt Nat _ C p.1)→J (i+1) (zs++[v]) nw'→P1 v { s with heap:=h',toks:=tk' }) →
      wpAny (model prog w) A (eval elt (compEnvC scope cl C env)) P1 E' { s with heap:=h,toks:=tk }) (done:∀ D C zs nw h tk m',J n zs nw→Fr h₀ L h m→News h₀ L h ((D,lst zs)::nw)→(∀ p∈nw,@LT.lt Nat _ p.1 Lo∨@LT.lt Nat _ C p.1)→@LE.le Nat _ Lo D→@LT.lt Nat _ D C→h.Ns C m'→C≠L→h₀.get? C=none→RR (.ref D) C (.ok .next) { s with heap:=h,toks:=tk }) : wpAny (model prog w) A (newList []) (fun acc s₃=>wpAny (model prog w) A (newFunctionEnv scope env.globals cl [] env.qual none .none (some env)) (fun cenv s₄ =>
      codeAny (model prog w) A (.compStart (.ListComp elt [⟨.Name a pa,iter,[],0⟩] scope pos) 0 (.ref I) acc { cenv with scope:=relabel scope env }) (RR acc cenv.locals) s₄) E s₃) E s:=by with_unfolding_all exact h_88 87 (Nat.lt_succ_self 87) (sk0 |>.set 0 0 prog |>.set 1 0 w |>.set 3 0 E |>.set 4 0 s |>.set 18 0 env |>.set 5 0 h₀ |>.set 6 0 L |>.set 8 3 elt |>.set 8 4 iter |>.set 56 1 pa |>.set 43 1 scope |>.set 44 0 cl |>.set 56 0 pos |>.set 7 0 m |>.set 22 2 news |>.set 65 0 RR |>.set 6 15 I |>.set 53 0 fp |>.set 53 1 wr |>.set 12 0 n |>.set 54 1 Md |>.set 12 22 Lo |>.set 66 0 J) A a P St xy W hh hP hself hLf hfp hfp0 hwr hLo hlo hst hz F N hcell hkind hxa J0 step done
end
section
variable {prog:Program} {w:World} {A:Around} {E:Value→Shared→Prop} {s:Shared} {env:Env} {h₀:Heap} {L:Addr}
theorem listS {elt iter:PySem.Expr} {a:Str} {pa:Pos} {scope:Scope} {cl:List (Str × Addr)} {pos:Pos} {l:Addr} {nl n:Nat} {xs:List Value} {m:Str→Option Value} {news:Led} {Q:Value→Shared→Prop}
    (hh:A.handled=none) (F:Fr h₀ L s.heap m) (N:News h₀ L s.heap news) (h1:(l,listOf xs.toArray nl)∈news) (hn:xs.length=n) (hz:n≤sizeLine)
    (hcell:∀ y∈scope.names,y.2≠.cell) (hkind:scope.kind=.function) (hxa:scope.names.lookup a=some .local)
    (rest:∀ Lo:Nat,(∀ p∈news,p.1<Lo)→∃ J:Nat→List Value→Led→Prop,J 0 [] news ∧
      (∀ i x zs C oC D m₂ h tk nw own,i<n→xs[i]?=some x→J i zs nw→NsObj oC m₂→m₂ a=some x→Fr h₀ L h m→News h₀ L h ((C,oC)::(D,lst zs)::(nw++own))→(∀ p∈nw,@LT.lt Nat _ p.1 Lo∨@LT.lt Nat _ C p.1)→@LE.le Nat _ Lo D→@LT.lt Nat _ D C →
        ∀ (P1:Value→Shared→Prop) (E':Value→Shared→Prop),(∀ v h' tk' nw',Fr h₀ L h' m→News h₀ L h' ((C,oC)::(D,lst zs)::(nw'++own))→(∀ p∈nw',@LT.lt Nat _ p.1 Lo∨@LT.lt Nat _ C p.1)→J (i+1) (zs++[v]) nw'→P1 v { s with heap:=h',toks:=tk' }) →
        wpAny (model prog w) A (eval elt (compEnvC scope cl C env)) P1 E' { s with heap:=h,toks:=tk }) ∧
      ∀ D zs nw h tk,J n zs nw→Fr h₀ L h m→News h₀ L h ((D,lst zs)::nw)→(∀ p∈nw,@LT.lt Nat _ p.1 Lo∨@LT.lt Nat _ D p.1)→@LE.le Nat _ Lo D→Q (.ref D) { s with heap:=h,toks:=tk }) :
    wpAny (model prog w) A (pyIter (.ref l)) (fun it s₂=>wpAny (model prog w) A (newList []) (fun acc s₃ =>
      wpAny (model prog w) A (newFunctionEnv scope env.globals cl [] env.qual none .none (some env)) (fun cenv s₄ =>
        codeAny (model prog w) A (.compStart (.ListComp elt [⟨.Name a pa,iter,[],0⟩] scope pos) 0 it acc { cenv with scope:=relabel scope env }) (compPost (model prog w) A E none Q acc cenv.locals) s₄) E s₃) E s₂) E s:=by
  subst hn
  have hax1:=N _ h1
  have hl1:s.heap.IsList l xs.toArray:=⟨_,hax1.1,rfl,nl,rfl⟩
  have hlt1 : @LT.lt Nat _ l s.heap.objs.size:=Heap.lt_size hax1.1
  have hLs : @LT.lt Nat _ L s.heap.objs.size:=F.ns.lt
  refine oe1 (rest s.heap.objs.size fun p hp=>Heap.lt_size (N p hp).1) ?_;intro J z0;refine oa3 z0 ?_;(try clear z0);intro J0 step done
  refine wpAny_pyIter_list hl1 ?_
  have up:∀ b o,s.heap.get? b=some o→(s.heap.push { cls:=.type "list_iterator",data:=.fields #[.ref l,.int 0 0] }).get? b=some o:=fun b o e=>Heap.get?_push_of_some _ e
  have hsz:(s.heap.push { cls:=.type "list_iterator",data:=.fields #[.ref l,.int 0 0] }).objs.size=s.heap.objs.size+1:=Heap.size_push ..
  have en:xs.toArray.size=xs.length:=List.size_toArray
  refine compS (KTurns.ofWalks (Walks.list hh s.heap.objs.size l (Nat.ne_of_lt hlt1) xs.toArray) (fun i v s Q E st q=>wpAny_pure q)) hh (fun i v=>xs[i]?=some v) (fun i v h hp=>by simpa using hp) (fun s' E' Q' st q=>wpAny_pyIter_listiter st.1 q) s.heap.objs.size ?hLf ?hfp ?hfp0 ?hwr ?hLo (fun p hp=>Heap.lt_size (N p hp).1) ⟨⟨_,Heap.get?_push_size _ rfl,rfl,rfl⟩,hl1.at fun o e=>up _ o e⟩ (by rw [en];exact hz) (F.keeps up) (N.grown up) hcell hkind hxa J J0 (by rw [en];exact step) (fun D C zs nw h tk m' a1 a2 a3 a4 a5 a6 a7 a8 a9=>⟨m',a7,fun h'' hs''=>done D zs nw h'' tk a1 (a2.change hs'' a8 a9) (fun q hq=>?_) (fun p hp=>(a4 p hp).imp id fun z=>Nat.lt_trans a6 z) a5⟩)
  case hLf =>
    intro hm
    rcases List.mem_cons.mp hm with h | h
    · exact absurd hLs (by rw [← h];exact Nat.lt_irrefl _)
    · exact hax1.2.1 (List.mem_singleton.mp h).symm
  case hfp =>
    intro b hb
    show @LT.lt Nat _ b (s.heap.push _).objs.size
    rw [hsz]
    rcases List.mem_cons.mp hb with h | h
    · rw [h];exact Nat.lt_succ_self _
    · rw [List.mem_singleton.mp h];exact Nat.lt_succ_of_lt hlt1
  case hfp0 =>
    intro b hb
    rcases List.mem_cons.mp hb with h | h
    · rw [h];exact kts_none F.keep (Heap.get?_none_of_le (Nat.le_refl _))
    · rw [List.mem_singleton.mp h];exact hax1.2.2
  case hwr =>
    intro b hb
    rw [List.mem_singleton.mp hb]
    refine ⟨Nat.le_refl _,?_⟩
    show @LT.lt Nat _ s.heap.objs.size (s.heap.push _).objs.size
    rw [hsz];exact Nat.lt_succ_self _
  case hLo =>
    show s.heap.objs.size≤(s.heap.push _).objs.size
    rw [hsz];exact Nat.le_succ _
  rcases List.mem_cons.mp hq with rfl | hq
  · exact ⟨hs''.extBut _ _ (Nat.ne_of_lt a6) (a3 _ (.head _)).1,(a3 _ (.head _)).2⟩
  · have z:=a3 q (.tail _ hq)
    refine ⟨hs''.extBut _ _ ?_ z.1,z.2⟩
    rcases a4 q hq with h1 | h1
    · exact Nat.ne_of_lt (Nat.lt_trans (Nat.lt_of_lt_of_le h1 a5) a6)
    · exact Nat.ne_of_gt h1
end
section
namespace Z0
theorem c_rangeS:∀ A a k,P_rangeS (k0 0) w E s env h₀ L (k8 3) (k8 4) (k56 1) (k43 1) cl (k56 0) n (k14 28) m news Q A a k:=by
  intro A a k hh F N hk hz hcell hkind hxa rest
  subst hk
  have hLs0 : @LT.lt Nat _ L s.heap.objs.size:=F.ns.lt
  refine call_range_1 ?_
  have hr:=IsRange.new s.heap 0 (n:Int) 1 s.toks (k14 28) (s.toks+1)
  refine wpAny_pyIter_range hr (small_one (by omega) (by omega) (by omega) (by omega)) ?_
  have hsz:Builtin.Range.rangeSize 0 (n:Int) 1=(n:Int):=by rw [rangeSize_one];split <;> omega
  rw [hsz]
  dsimp only
  refine oe1 (rest s.heap.objs.size fun p hp=>Heap.lt_size (N p hp).1) ?_;intro J z0;refine oa3 z0 ?_;(try clear z0);intro J0 step done
  generalize hH:s.heap.push { cls:=.type "range",data:=.fields #[.int 0 s.toks,.int n (k14 28),.int 1 (s.toks+1)] }=H at *
  have upH:∀ b o,s.heap.get? b=some o→H.get? b=some o:=fun b o e=>hH ▸ Heap.get?_push_of_some _ e
  have up:∀ b o,s.heap.get? b=some o→(H.push { cls:=.type "range_iterator",data:=.fields #[rawInt 0,rawInt n,rawInt 1] }).get? b=some o:=fun b o e=>Heap.get?_push_of_some _ (upH b o e)
  have hsz':H.objs.size=s.heap.objs.size+1:=by rw [← hH,Heap.size_push]
  have hsz2:(H.push { cls:=.type "range_iterator",data:=.fields #[rawInt 0,rawInt n,rawInt 1] }).objs.size=H.objs.size+1:=Heap.size_push ..
  refine compS (KTurns.ofWalks (Walks.range hh H.objs.size 0 1 n) (fun i v s Q E st q=>wpAny_pure q)) hh (fun i v=>∃ t,v=.int (i:Int) t) (fun i v h hp=>?hP) (fun s' E' Q' st q=>wpAny_pyIter_rangeiter st q) s.heap.objs.size ?hLf ?hfp ?hfp0 ?hwr ?hLo (fun p hp=>Heap.lt_size (N p hp).1) ?hst (by rw [PySem.sizeLine_eq];omega) (F.keeps up) (N.grown up) hcell hkind hxa J J0 step (fun D C zs nw h tk m' a1 a2 a3 a4 a5 a6 a7 a8 a9=>⟨m',a7,fun h'' hs''=>done D zs nw h'' tk a1 (a2.change hs'' a8 a9) (fun q hq=>?_) (fun p hp=>(a4 p hp).imp id fun z=>Nat.lt_trans a6 z) a5⟩)
  case hP =>
    refine oe1 hp ?_;(try clear hp);intro t z43;obtain rfl:=z43
    exact ⟨t,by rw [show (0:Int)+(i:Int) * 1=(i:Int) by omega]⟩
  case hLf =>
    intro hm
    have e:L=H.objs.size:=List.mem_singleton.mp hm
    have h2 : @LT.lt Nat _ H.objs.size s.heap.objs.size:=e ▸ hLs0
    rw [hsz'] at h2
    exact absurd h2 (Nat.not_lt.mpr (Nat.le_succ _))
  case hfp =>
    intro b hb
    rw [List.mem_singleton.mp hb]
    show @LT.lt Nat _ H.objs.size (H.push _).objs.size
    rw [hsz2];exact Nat.lt_succ_self _
  case hfp0 =>
    intro b hb
    rw [List.mem_singleton.mp hb]
    exact kts_none F.keep (Heap.get?_none_of_le (by rw [hsz'];exact Nat.le_succ _))
  case hwr =>
    intro b hb
    rw [List.mem_singleton.mp hb]
    refine ⟨by rw [hsz'];exact Nat.le_succ _,?_⟩
    show @LT.lt Nat _ H.objs.size (H.push _).objs.size
    rw [hsz2];exact Nat.lt_succ_self _
  case hLo =>
    show s.heap.objs.size≤(H.push _).objs.size
    rw [hsz2,hsz'];omega
  case hst =>
    show IsRangeIter _ _ _ _ _
    have:=Heap.get?_push_size H (o:={ cls:=.type "range_iterator",data:=.fields #[rawInt 0,rawInt n,rawInt 1] }) rfl
    simpa using this
  rcases List.mem_cons.mp hq with rfl | hq
  · exact ⟨hs''.extBut _ _ (Nat.ne_of_lt a6) (a3 _ (.head _)).1,(a3 _ (.head _)).2⟩
  · have z:=a3 q (.tail _ hq)
    refine ⟨hs''.extBut _ _ ?_ z.1,z.2⟩
    rcases a4 q hq with h1 | h1
    · exact Nat.ne_of_lt (Nat.lt_trans (Nat.lt_of_lt_of_le h1 a5) a6)
    · exact Nat.ne_of_gt h1
end Z0
theorem h_89:∀ j,j<89→∀ u,Pf j u:=histS 88 h_88 (gen 88 h_88 (by with_unfolding_all exact Z0.c_rangeS))
theorem rangeS {prog:Program} {w:World} {A:Around} {E:Value→Shared→Prop} {s:Shared} {env:Env} {h₀:Heap} {L:Addr} {elt iter:PySem.Expr} {a:Str} {pa:Pos} {scope:Scope} {cl:List (Prod Str Addr)} {pos:Pos} {n:Nat} {k:Int} {t0:Tok} {m:Str→Option Value} {news:Led} {Q:Value→Shared→Prop} : P_rangeS prog w E s env h₀ L elt iter pa scope cl pos n t0 m news Q A a k:=by with_unfolding_all exact h_89 88 (Nat.lt_succ_self 88) (sk0 |>.set 0 0 prog |>.set 1 0 w |>.set 3 0 E |>.set 4 0 s |>.set 18 0 env |>.set 5 0 h₀ |>.set 6 0 L |>.set 8 3 elt |>.set 8 4 iter |>.set 56 1 pa |>.set 43 1 scope |>.set 44 0 cl |>.set 56 0 pos |>.set 12 0 n |>.set 14 28 t0 |>.set 7 0 m |>.set 22 2 news |>.set 3 1 Q) A a k
end
end Mine
namespace Mine
section
variable {w:World} {sc:Addr} {vs:List Value} {ns:List Int}
theorem kw112_1:True:=by
  k_with "eval ListComp" => ((fail_if_success have:=@e112_1);k_here;refine Halt.intro ?_)
  k_with "pyIter ref" => ((fail_if_success have:=@e112_1);k_here;refine Halt.intro ?_)
  trivial
end
section
namespace Z0
theorem c_law_deck2:∀ ns,P_law_deck2 w (k6 25) (k23 0) p loose mean mg mb dp un gd cn cs a ccd cl outer A₀ base h₀ L m rest s Q E ns:=by
  intro ns hi hz
  intro B F X N Tp hL hk hd hu ret
  revert X;k_fill;intro X
  refine wpAny_call ?_
  k_dflt (refine' enterZ [ofString "script"] (l':=[(ofString "script",_)]) ?k1 ?k2 ?k3 ?k4 ?k5 ?kA ?kF ?kK ?k6 ?k7 ?k8 ?k9 ?kB ?kL ?_ ?c2 ?c3 ?c4 ?c5;k_extra "ez")
  rename Fr h₀ L _ m=>FG9
  rename Fr _ _ _ _=>F9
  have hL':=hL.at (h':=_) fun o e=>FG9.keep _ _ e
  k_steps
  unfold Halt
  rw [eval_ListComp]
  refine wpAny_comprehension_free (use:=none) (cl:=[]) rfl ?hs ?hclos rfl ?hnames ?_
  (case hs=>intro _;rfl)
  (case hclos=>rfl)
  (case hnames=>decide +kernel)
  rw [arm_firstIter_cons]
  k_steps
  rename Fr _ _ _ _=>F8
  rename News _ _ _ _=>N8
  rename ∀ p∈rest,p.1<_=>lt8
  rename IntsAre _ (List.take 16 ns)=>hI8
  unfold Halt
  refine' listS (n:=(List.take 16 ns).length) rfl F8 N8 ?h1 ?hn ?hz ?hcell rfl rfl ?rest
  (case h1=>k_mem)
  (case hn=>exact hI8.length)
  (case hz=>(rw [PySem.sizeLine_eq,List.length_take];omega))
  (case hcell=>decide +kernel)
  intro Lo hLo
  refine ⟨fun i zs nw=>(∃ l,IntsAre zs l∧l.length=i)∧∀ q∈rest,q∈nw,⟨⟨[],.nil,rfl⟩,fun q hq=>.tail _ hq⟩,?_,?_⟩
  · intro i v zs C oC D m₂ h tk nw own hi9 hP hJ hC hx F N hnw hD hDC P1 E' f1
    refine oa2 hJ ?_;(try clear hJ);intro z44 hsub;refine oe1 z44 ?_;(try clear z44);intro l z0;refine oa2 z0 ?_;(try clear z0);intro hl hll
    obtain ⟨k,t,rfl⟩ : ∃ k t,v=.int k t:=ints_at hI8 (i:=i) (by simpa using hP)
    clear F8 N8
    k_steps
    exact f1 _ _ _ nw F N hnw ⟨⟨l++[_],hl.append (.cons _ _ .nil),by rw [List.length_append,hll];rfl⟩,hsub⟩
  · intro D zs nw h tk hJ F9 N9 hnw hD
    refine oa2 hJ ?_;(try clear hJ);intro z45 hsub;refine oe1 z45 ?_;(try clear z45);intro l z0;refine oa2 z0 ?_;(try clear z0);intro hl hll
    have hll2:l.length≤16:=by
      rw [hll,List.length_take];omega
    clear F8 N8
    k_steps
    rename News h₀ L _ _=>N7
    refine ret D zs zs.length l _ _ hl hll2 ‹_› (News.sub N7 fun q hq=>?_) fun q hq=>Nat.lt_of_lt_of_le (hLo q (.tail _ hq)) hD
    rcases List.mem_cons.mp hq with rfl | hq
    · exact .head _
    · exact .tail _ (hsub q hq)
end Z0
theorem h_90:∀ j,j<90→∀ u,Pf j u:=histS 89 h_89 (gen 89 h_89 (by with_unfolding_all exact Z0.c_law_deck2))
theorem law_deck2 {w:World} {sc:Addr} {vs:List Value} {ns:List Int} (hi:IntsAre vs ns) (hz:ns.length≤63) : ∀ (p:Program) (loose:List Str) (mean:ExcName→Option Value) (mg mb:Str→Option Value) (dp un:Nat) (gd:Option (List Code)) (cn:Str) (cs:Scope) (a:Addr) (ccd:Value) (cl:List (Str × Addr)) (outer:List Env) (A₀:Around) (base h₀:Heap) (L:Addr) (m:Str→Option Value) (rest:List (Addr × Obj)) (s:Shared) (Q E:Value→Shared→Prop),
    Below A₀ base outer h₀→Fr h₀ L s.heap m→(Mine.hd.heap_1 w.params).In h₀→News h₀ L s.heap rest→Top p loose mean mg mb h₀→h₀.IsList sc vs.toArray→cs.kind=.function→dp+12<recursionLimit→un+8 * 12<cLine →
    (∀ D ds c ns' h' tk',IntsAre ds ns'→ns'.length≤16→Fr h₀ L h' m→News h₀ L h' ((D,listOf (List.toArray ds) c)::rest)→(∀ p∈rest,@LT.lt Nat _ p.1 D)→Q (.ref D) { s with heap:=h',toks:=tk' }) →
    wpAny (model PySem.Challenge.rw_ok0063_01.prog w) (ktrTop dp un gd cn cs L a ccd cl outer) (call (.ref 513) [.ref sc]) Q E s:=fun p loose mean mg mb dp un gd cn cs a ccd cl outer A₀ base h₀ L m rest s Q E=>by with_unfolding_all exact h_90 89 (Nat.lt_succ_self 89) (sk0 |>.set 1 0 w |>.set 6 25 sc |>.set 23 0 vs |>.set 0 1 p |>.set 35 1 loose |>.set 41 0 mean |>.set 7 4 mg |>.set 7 5 mb |>.set 12 7 dp |>.set 12 8 un |>.set 42 0 gd |>.set 19 5 cn |>.set 43 0 cs |>.set 6 14 a |>.set 10 22 ccd |>.set 44 0 cl |>.set 45 0 outer |>.set 2 2 A₀ |>.set 5 2 base |>.set 5 0 h₀ |>.set 6 0 L |>.set 7 0 m |>.set 62 0 rest |>.set 4 0 s |>.set 3 1 Q |>.set 3 0 E) ns hi hz
theorem e112_1:True:=trivial
end
end Mine
namespace Mine
namespace Z0
theorem c_ins0:∀ G,P_ins0 w A (k21 0) (k15 10) (k15 11) point (k15 14) mark (k12 3) (k6 7) (k9 2) nc t9 G:=by
  intro G ok hj hl hB hlc hp hp2 hcs
  obtain ⟨T,vn,vm,ct,st,tp,tb,tz,u1,g1,g2,g3,g4,g5,g6,g7,tr,ticks,gs,ge,its,n,o,kvs,eG,hin⟩:=hB
  subst eG
  have S:=ed_insert w (I:=[]) (EM:=fun _=>[]) (pos:=fun _=>0) (T:=T) (vn:=vn) (vm:=vm) (ct:=ct) (st:=st) (mark:=mark) (tp:=tp) (tb:=tb) (tz:=tz) (u1:=u1) (g1:=g1) (g2:=g2) (g3:=g3) (g4:=g4) (g5:=g5) (g6:=g6) (g7:=g7) (tr:=tr) (ticks:=ticks) (n:=n) (point:=point) (nc:=nc) (t9:=t9) ok hj hin hl List.nodup_nil (fun _ h=>nomatch h) (fun _ _ h=>nomatch h) hlc (fun h=>nomatch h) hp hp2 hcs
  refine Spec.lift (more:=[]) S (fun p hp=>?_) Off.nil (fun a ha=>?_) ?_
  · simp only [List.append_nil,List.mem_append,List.mem_cons,List.flatMap_nil,List.not_mem_nil,or_false] at hp ⊢
    rcases hp with h | h
    · exact .inr h
    · exact .inl h
  · simp only [List.flatMap_nil,List.append_nil,List.mem_cons,List.not_mem_nil,or_false] at ha
    rcases ha with h | h | h <;> subst h <;> simp [Ad.bAd]
  · rintro v led' ⟨rfl,l',EM',rfl,hb,_⟩
    refine ⟨_,fun p hp=>?_,rfl,_,rfl,hb⟩
    simp only [List.mem_append,List.mem_cons,List.flatMap_nil,List.not_mem_nil,or_false] at hp ⊢
    rcases hp with h | h
    · exact .inr h
    · exact .inl h
end Z0
theorem h_91:∀ j,j<91→∀ u,Pf j u:=histS 90 h_90 (gen 90 h_90 (by with_unfolding_all exact Z0.c_ins0))
theorem ins0 {w:World} {A:Ad} {home:Int→Int} {j size point place:Int} {mark:Value} {lim:Nat} {G:Led} {lc:Addr} {cs_:Array Value} {nc:Nat} {t9:Tok} : P_ins0 w A home j size point place mark lim lc cs_ nc t9 G:=by with_unfolding_all exact h_91 90 (Nat.lt_succ_self 90) (sk0 |>.set 1 0 w |>.set 25 0 A |>.set 21 0 home |>.set 15 10 j |>.set 15 11 size |>.set 15 12 point |>.set 15 14 place |>.set 10 4 mark |>.set 12 3 lim |>.set 6 7 lc |>.set 9 2 cs_ |>.set 12 2 nc |>.set 14 10 t9) G
theorem useA {w:World} {f:Addr} {args:List Value} {dz:Nat} {ledx M:Led} {wr:List Addr} {Post:Value→List (Addr × Obj)→Prop} (S:Spec w f args dz (ledx++M) wr Post)
    {p:Program} {loose:List Str} {mean:ExcName→Option Value} {mg mb:Str→Option Value} {dp un:Nat} {gd:Option (List Code)} {cn:Str} {cs:Scope} {a:Addr} {ccd:Value} {cl:List (Str × Addr)} {outer:List Env} {A₀:Around} {base h₀:Heap} {L:Addr} {m:Str→Option Value} {news ex restx r0:Led} {s:Shared} {Q E:Value→Shared→Prop}
    (B:Below A₀ base outer h₀) (F:Fr h₀ L s.heap m) (X:(Mine.hd.heap_1 w.params).In h₀) (N:News h₀ L s.heap news) (C:CutA M news ex r0) (P:Pick ex ledx restx) (hr:Off wr (restx++r0)) (T:Top p loose mean mg mb h₀) (hk:cs.kind=.function) (hd:dp+dz<recursionLimit) (hu:un+8 * dz<cLine)
    (ret:∀ v led' h' tk',Post v led'→Fr h₀ L h' m→News h₀ L h' (led'++(restx++r0))→Q v { s with heap:=h',toks:=tk' }) :
    wpAny (model PySem.Challenge.rw_ok0063_01.prog w) (ktrTop dp un gd cn cs L a ccd cl outer) (call (.ref f) args) Q E s:=by
  refine S p loose mean mg mb dp un gd cn cs a ccd cl outer A₀ base h₀ L m (restx++r0) s Q E B F X (fun q hq=>N q ?_) hr T hk hd hu ret
  rw [C.eq]
  simp only [List.mem_append] at hq ⊢
  rcases hq with (hq | hq) | hq | hq
  · exact .inl (P.mem q (List.mem_append.mpr (.inl hq)))
  · exact .inr (.inl hq)
  · exact .inl (P.mem q (List.mem_append.mpr (.inr hq)))
  · exact .inr (.inr hq)
theorem bAd_out {A:Ad} (ok:A.Ok) {j:Int} (hj:j∈sides) {y:Addr} (h : @LT.lt Nat _ y (A.bd 0)∨@LT.lt Nat _ (A.ls 1) y) : y ∉ A.bAd j:=fun hm=>by
  refine oa2 (bAd_lo ok hj y hm) ?_;intro h1 h2
  have two:=ok.two
  refine and8 (ok.blk 0 (by decide)) ?_;intro q1 q2 q3 q4 q5 q6 q7 q8
  refine and8 (ok.blk 1 (by decide)) ?_;intro r1 r2 r3 r4 r5 r6 r7 r8
  have:=sides2 hj
  rcases this with rfl | rfl <;> omega
theorem bAd_off {w:World} {A:Ad} (ok:A.Ok) {i j:Int} (hi:i∈sides) (hj:j∈sides) (hne:i≠j) {I:List Int} {home:Int→Int} {size point:Int} {mark:Value} {lim:Nat} {G:Led} (hB:BfOk w A I home i size point mark lim G) : Off (A.bAd j) G:=fun q hq hm=>by
  have hm2:q.1∈A.bAd i:=by rw [← hB.adr];exact List.mem_map.mpr ⟨q,hq,rfl⟩
  refine oa2 (bAd_lo ok hj q.1 hm) ?_;intro h1 h2
  refine oa2 (bAd_lo ok hi q.1 hm2) ?_;intro h3 h4
  rcases ok.sep hi hj hne with h | h <;> omega
namespace Z0
theorem c_turn_end:∀ i j k,P_turn_end w A h₀ (k5 3) L I (k6 11) dl bl (k16 7) (k16 17) l9 GK Tb dv dn nd nb (k16 8) (k16 9) (k16 10) (k16 11) (k16 12) (k16 13) o7 o8 m v7 (k15 27) (k15 28) i j k:=by
  intro i j k ok hjk N9 di dz c7 h1 h2 hj hk hdl hdI hbl hbI hTb
  have jk:j∈sides∧k∈sides∧k≠j:=by
    rcases hjk with ⟨rfl,rfl⟩ | ⟨rfl,rfl⟩ <;> exact ⟨by decide,by decide,by decide⟩
  have up:∀ x∈sides,∀ q∈(if x=j then l9 else GK),@LE.le Nat _ q.1 (A.ls 1):=fun x hx q hq=>by
    have two:=ok.two
    refine and8 (ok.blk 1 (by decide)) ?_;intro r1 r2 r3 r4 r5 r6 r7 r8
    have key:∀ y∈sides,∀ (l:Led) (sy:Int) (lm:Nat),BfOk w A [] (fun _=>-1) y sy 1 .none lm l→q∈l→@LE.le Nat _ q.1 (A.ls 1):=fun y hy l sy lm hB hq=>by
      have hm:q.1∈A.bAd y:=by rw [← hB.adr];exact List.mem_map.mpr ⟨q,hq,rfl⟩
      have h1:=(bAd_lo ok hy q.1 hm).2
      have:=sides2 hy
      rcases this with rfl | rfl <;> omega
    split at hq
    · exact key j jk.1 _ _ _ hj hq
    · exact key k jk.2.1 _ _ _ hk hq
  refine ⟨_,News.sub N9 ?_,?_,⟨rfl,fun x=>if x=j then l9 else GK,fun x=>if x=j then (k15 27) else (k15 28),dv,dn,nd,o7,rfl,di,dz,⟨_,c7⟩,fun x hx=>?_⟩,?_⟩
  · have cs:∀ x:Int,∀ q∈(if x=j then l9 else GK),q∈l9∨q∈GK:=fun x q h=>by
      split at h
      · exact .inl h
      · exact .inr h
    repeat' first | with_reducible refine sbc ?_ ?_ | with_reducible refine sba ?_ ?_
    all_goals first | k_extra "mem" | k_extra "opq" | exact fun q h=>(cs _ q h).elim (fun h=>sbi h (by k_extra "opq")) fun h=>sbi h (by k_extra "opq")
  · intro q hq
    left
    simp only [List.mem_cons,List.mem_append] at hq
    rcases hq with rfl | rfl | rfl | rfl | rfl | rfl | rfl | rfl | rfl | rfl | h | h | h
    · exact hdI
    · show @LT.lt Nat _ (L+1+1+1+1+1+1+1+1) I;omega
    · show @LT.lt Nat _ (L+1+1+1+1+1+1+1) I;omega
    · show @LT.lt Nat _ (L+1+1+1+1+1+1) I;omega
    · show @LT.lt Nat _ (L+1+1+1+1+1) I;omega
    · show @LT.lt Nat _ (L+1+1+1+1) I;omega
    · show @LT.lt Nat _ (L+1+1+1) I;omega
    · show @LT.lt Nat _ (L+1+1) I;omega
    · show @LT.lt Nat _ (L+1) I;omega
    · exact hbI
    · have:=up 0 (by decide) q h;omega
    · have:=up 1 (by decide) q h;omega
    · have:=hTb q h;omega
  · show 0≤(if x=j then (k15 27) else (k15 28))∧(if x=j then (k15 27) else (k15 28))≤_∧BfOk w A [] (fun _=>-1) x (if x=j then (k15 27) else (k15 28)) 1 .none _ (if x=j then l9 else GK)
    by_cases e:x=j
    · simp only [e,if_true];exact ⟨h1.1,h1.2,hj⟩
    · have ek:x=k:=by
        have:=sides_iff.mp hx
        rcases hjk with ⟨rfl,rfl⟩ | ⟨rfl,rfl⟩ <;> omega
      simp only [e,if_false]
      rw [ek]
      exact ⟨h2.1,h2.2,hk⟩
  · simp only [List.mem_cons,true_or,or_true]
end Z0
theorem h_92:∀ j,j<92→∀ u,Pf j u:=histS 91 h_91 (gen 91 h_91 (by with_unfolding_all exact Z0.c_turn_end))
theorem turn_end {w:World} {A:Ad} {h₀ h':Heap} {L I D dl bl:Addr} {oI oD:Obj} {l9 GK Tb:Led} {dv:List Value} {dn:List Int} {nd nb i:Nat} {o1 o2 o3 o4 o5 o6 o7 o8:Obj} {m:Str→Option Value} {v7:Option Value} {j k sj sk:Int} : P_turn_end w A h₀ h' L I D dl bl oI oD l9 GK Tb dv dn nd nb o1 o2 o3 o4 o5 o6 o7 o8 m v7 sj sk i j k:=by with_unfolding_all exact h_92 91 (Nat.lt_succ_self 91) (sk0 |>.set 1 0 w |>.set 25 0 A |>.set 5 0 h₀ |>.set 5 3 h' |>.set 6 0 L |>.set 6 15 I |>.set 6 11 D |>.set 6 22 dl |>.set 6 18 bl |>.set 16 7 oI |>.set 16 17 oD |>.set 22 13 l9 |>.set 22 14 GK |>.set 22 15 Tb |>.set 23 6 dv |>.set 24 2 dn |>.set 12 21 nd |>.set 12 13 nb |>.set 16 8 o1 |>.set 16 9 o2 |>.set 16 10 o3 |>.set 16 11 o4 |>.set 16 12 o5 |>.set 16 13 o6 |>.set 16 14 o7 |>.set 16 15 o8 |>.set 7 0 m |>.set 38 8 v7 |>.set 15 27 sj |>.set 15 28 sk) i j k
section
theorem kw114_1:True:=by
  k_with "call ref" => ((fail_if_success have:=@e114_1);k_here;(with_reducible show wpAny _ _ (call (Value.ref 501) _) _ _ _);refine Halt.intro ?_)
  k_with "eval ListComp" => ((fail_if_success have:=@e114_1);k_here;refine Halt.intro ?_)
  k_with "call type:range" => ((fail_if_success have:=@e114_1);k_here;refine Halt.intro ?_)
  trivial
namespace Z0
theorem c_loop0:∀ st cs h₀ m,P_loop0 w dp un gd a A₀ base p loose mean mg mb L s (k49 0) P A dl bl nb nd G Tb dv dn (k16 8) (k16 9) (k16 10) (k16 11) (k16 12) (k16 13) o7 o8 v7 st cs h₀ m:=by
  intro st cs h₀ m hb hc hd hu B X T ok F hm N di dz c6 c7 hG hdl hdb hbl hTb next
  cases hb
  cases hc
  dsimp only
  refine and8 (ok.blk 0 (by decide)) ?_;intro q1 q2 q3 q4 q5 q6 q7 q8
  refine and8 (ok.blk 1 (by decide)) ?_;intro r1 r2 r3 r4 r5 r6 r7 r8
  have two:=ok.two
  revert X;k_fill;intro X
  refine For_X ?_
  k_steps
  refine listX (xs:=[.ref (A.b 0),.ref (A.b 1)]) (nl:=nb) (fun h=>h=h₀) rfl rfl (fun h e b hb=>e ▸ hb) F N (by k_mem) ?_
  intro I hI
  refine ⟨(fun (i:Nat) (m':Str→Option Value) (n:Led)=>m'=m∧∃ (G:Int→Led) (sz:Int→Int) (dv:List Value) (dn:List Int) (nd:Nat) (o7:Obj),n=(dl,listOf (List.toArray dv) nd)::(L+1+1+1+1+1+1+1+1,o8)::(L+1+1+1+1+1+1+1,o7)::(L+1+1+1+1+1+1,(k16 13))::(L+1+1+1+1+1,(k16 12))::(L+1+1+1+1,(k16 11))::(L+1+1+1,(k16 10))::(L+1+1,(k16 9))::(L+1,(k16 8))::(bl,listOf #[.ref (A.b 0),.ref (A.b 1)] nb)::(G 0++(G 1++Tb))∧IntsAre dv dn∧dn.length≤20∧(∃ v,o7.data=.cell v)∧∀ j∈sides,0≤sz j∧sz j≤10 * i∧BfOk w A [] (fun _=>-1) j (sz j) 1 .none (26+18 * i) (G j)),⟨rfl,G,fun _=>0,dv,dn,nd,o7,rfl,di,dz,⟨_,c7⟩,fun j hj=>⟨Int.le_refl _,by simp,hG j hj⟩⟩,?_,?_⟩
  · intro i v hv h₀2 m₁ news₁ h₁ tk₁ oI e0 hJ
    subst e0
    refine oa2 hJ ?_;(try clear hJ);intro z46 z47;refine oa2 z46 ?_;(try clear z46);intro z48 z0;obtain rfl:=z48;refine oe6 z0 ?_;(try clear z0);intro G sz dv dn nd o7 z1;refine oa5 z1 ?_;(try clear z1);intro z49 di dz z50 hG;obtain rfl:=z49;refine oe1 z50 ?_;(try clear z50);intro v7 c7;obtain-:= z47
    intro hap F1 N1 P9 next9
    obtain ⟨j,hj,hji,rfl⟩:=two_at hv
    clear N F hv
    have hIdl : @LT.lt Nat _ dl I:=hI (dl,_) (.head _)
    have hIbl : @LT.lt Nat _ bl I:=hI (bl,_) (by k_mem)
    have hi2:i≤1:=by have:=sides_iff.mp hj;omega
    have hdb2 : @LT.lt Nat _ dl bl:=by omega
    have lowG:∀ j∈sides,∀ q∈G j,@LT.lt Nat _ dl q.1:=fun j hj q hq=>by
      have hm:q.1∈A.bAd j:=by rw [← (hG j hj).2.2.adr];exact List.mem_map.mpr ⟨q,hq,rfl⟩
      have h1:=(bAd_lo ok hj q.1 hm).1
      have:=sides2 hj
      rcases this with rfl | rfl <;> omega
    have tail:∀ q∈G 0++(G 1++Tb),@LT.lt Nat _ dl q.1∨@LT.lt Nat _ q.1 L:=fun q hq=>by
      rcases List.mem_append.mp hq with h | h
      · exact .inl (lowG 0 (by decide) q h)
      · rcases List.mem_append.mp h with h | h
        · exact .inl (lowG 1 (by decide) q h)
        · exact .inr (hTb q h)
    have fr7:∀ q∈G 0++(G 1++Tb),@Ne Nat q.1 (L+1+1+1+1+1+1+1):=fun q hq=>by have:=tail q hq;omega
    have oodl:Off [dl] (G 0++(G 1++Tb)):=fun q hq h=>by
      have:=tail q hq
      have : @Eq Nat q.1 dl:=List.mem_singleton.mp h
      omega
    k_steps
    unfold Halt
    rw [eval_ListComp]
    refine wpAny_comprehension_free (use:=none) (cl:=[]) rfl ?hs ?hclos rfl ?hnames ?_
    (case hs=>intro _;rfl)
    (case hclos=>rfl)
    (case hnames=>decide +kernel)
    rw [arm_firstIter_cons]
    k_steps
    unfold Halt
    rename Fr _ _ _ _=>F8
    rename News _ _ _ _=>N8
    refine' rangeS rfl F8 N8 (Int.toNat_of_nonneg ?nn).symm ?hz ?hcell rfl rfl ?_
    (case nn=>omega)
    (case hz=>omega)
    (case hcell=>decide +kernel)
    intro Lo hLo
    have hLbl : @LT.lt Nat _ bl Lo:=hLo (bl,_) (by k_mem)
    refine ⟨fun i zs nw=>zs.length=i∧∀ q∈(_:Led),q∈nw,⟨rfl,fun q hq=>hq⟩,?_,?_⟩
    · rintro k v zs C oC D m₂ h tk nw own hk9 ⟨t,rfl⟩ ⟨hlen,hsub⟩ hC hx F N hnw hD hDC P1 E' f1
      clear F8 N8
      k_steps
      exact f1 _ _ _ nw F N hnw ⟨by rw [List.length_append,hlen];rfl,hsub⟩
    · rintro D zs nw h tk ⟨hlen,hsub⟩ F9 N9 hnw hD
      have N7:=News.sub (l':=(D,LCg.lst zs)::_) N9 (fun q hq=>(List.mem_cons.mp hq).elim (fun e=>e ▸ .head _) (fun h=>.tail _ (hsub q h)))
      clear N9 N8 F8 hsub hLo
      have hzs:zs.length≤10:=by omega
      have hszi:(zs.toArray.size:Int)=zs.length:=by rw [List.size_toArray]
      k_steps
      unfold Halt
      rename Fr _ _ _ _=>F6
      rename News _ _ _ _=>N6
      have offTb:∀ j∈sides,Off (A.bAd j) Tb:=fun j hj q hq=>bAd_out ok hj (.inl (by have:=hTb q hq;omega))
      have:=sides_iff.mp hj
      have hj01:j=0∨j=1:=by omega
      rcases hj01 with rfl | rfl
      · have offK:=bAd_off ok (i:=1) (j:=0) (by decide) (by decide) (by decide) (hG 1 (by decide)).2.2
        have offJ:=offTb 0 (by decide)
        refine' useA (ledx:=[(D,listOf zs.toArray zs.length)]) (M:=G 0) (ins0 (j:=0) (nc:=zs.length) (cs_:=zs.toArray) ok (by decide) ?l (hG 0 (by decide)).2.2 ?hlc ?hp ?hp2 ?hcs) B ?F X ?N ?C ?P ?hr T ?hk ?hd ?hu ?_
        (case F=>exact F6)
        (case N=>exact N6)
        (case C=>(repeat' first | exact CutA.here | refine' CutA.step ?_ | refine' CutA.app ?_))
        (case P=>exact .cons .head .nil)
        (case l=>omega)
        (case hlc=>omega)
        (case hp=>omega)
        (case hp2=>(have:=(hG 0 (by decide)).1;omega))
        (case hcs=>(rw [List.size_toArray];exact hzs))
        (case hk=>rfl)
        (case hd=>ktr_room)
        (case hu=>ktr_units)
        (case hr=>(repeat' first | exact Off.nil | assumption | (refine' Off.append ?_ ?_) | refine' Off.cons ?_ ?_ | exact bAd_out ok (by decide) (.inl (by omega)) | exact bAd_out ok (by decide) (.inr (by omega))))
        intro v9 led9 h' tk' hP9 F' N'
        refine oa2 hP9 ?_;(try clear hP9);intro hv9 z0;refine oe1 z0 ?_;(try clear z0);intro l9 z1;refine oa2 z1 ?_;(try clear z1);intro hl9 hB9
        subst hv9
        subst hl9
        clear F6 N6
        k_steps
        rename Fr _ _ _ _=>F9
        rename News _ _ _ _=>N9
        simp only [List.cons_append,List.nil_append,List.append_nil,List.append_assoc] at N9
        have hg1:=hG 0 (by decide)
        have hg2:=hG 1 (by decide)
        rw [hszi,if_neg (by decide)] at hB9
        refine oe1 (turn_end (i:=i) (m:=m₁) (j:=0) (k:=1) (sj:=sz 0+zs.length) (sk:=sz 1) ok (by decide) N9 ‹_› ‹_› ‹_› ⟨by omega,by omega⟩ ⟨by omega,by omega⟩ (hB9.mono (by omega)) (hg2.2.2.mono (by omega)) hdl hIdl hbl hIbl hTb) ?_;intro news9 z0;refine oa3 z0 ?_;(try clear z0);intro N8 ap9 J8
        exact next9 h₀2 _ _ m₁ news9 rfl F9 N8 ap9 J8
      · have offK:=bAd_off ok (i:=0) (j:=1) (by decide) (by decide) (by decide) (hG 0 (by decide)).2.2
        have offJ:=offTb 1 (by decide)
        refine' useA (ledx:=[(D,listOf zs.toArray zs.length)]) (M:=G 1) (ins0 (j:=1) (nc:=zs.length) (cs_:=zs.toArray) ok (by decide) ?l (hG 1 (by decide)).2.2 ?hlc ?hp ?hp2 ?hcs) B ?F X ?N ?C ?P ?hr T ?hk ?hd ?hu ?_
        (case F=>exact F6)
        (case N=>exact N6)
        (case C=>(repeat' first | exact CutA.here | refine' CutA.step ?_ | refine' CutA.app ?_))
        (case P=>exact .cons .head .nil)
        (case l=>omega)
        (case hlc=>omega)
        (case hp=>omega)
        (case hp2=>(have:=(hG 1 (by decide)).1;omega))
        (case hcs=>(rw [List.size_toArray];exact hzs))
        (case hk=>rfl)
        (case hd=>ktr_room)
        (case hu=>ktr_units)
        (case hr=>(repeat' first | exact Off.nil | assumption | (refine' Off.append ?_ ?_) | refine' Off.cons ?_ ?_ | exact bAd_out ok (by decide) (.inl (by omega)) | exact bAd_out ok (by decide) (.inr (by omega))))
        intro v9 led9 h' tk' hP9 F' N'
        refine oa2 hP9 ?_;(try clear hP9);intro hv9 z0;refine oe1 z0 ?_;(try clear z0);intro l9 z1;refine oa2 z1 ?_;(try clear z1);intro hl9 hB9
        subst hv9
        subst hl9
        clear F6 N6
        k_steps
        rename Fr _ _ _ _=>F9
        rename News _ _ _ _=>N9
        simp only [List.cons_append,List.nil_append,List.append_nil,List.append_assoc] at N9
        have hg1:=hG 1 (by decide)
        have hg2:=hG 0 (by decide)
        rw [hszi,if_neg (by decide)] at hB9
        refine oe1 (turn_end (i:=i) (m:=m₁) (j:=1) (k:=0) (sj:=sz 1+zs.length) (sk:=sz 0) ok (by decide) N9 ‹_› ‹_› ‹_› ⟨by omega,by omega⟩ ⟨by omega,by omega⟩ (hB9.mono (by omega)) (hg2.2.2.mono (by omega)) hdl hIdl hbl hIbl hTb) ?_;intro news9 z0;refine oa3 z0 ?_;(try clear z0);intro N8 ap9 J8
        exact next9 h₀2 _ _ m₁ news9 rfl F9 N8 ap9 J8
  · intro h₀' h' tk' m' news' e0 F' N' hJ
    subst e0
    refine oa2 hJ ?_;(try clear hJ);intro z51 hJ;obtain rfl:=z51
    exact next h' tk' F' ⟨news',N',rfl,hJ⟩
end Z0
theorem h_93:∀ j,j<93→∀ u,Pf j u:=histS 92 h_92 (gen 92 h_92 (by with_unfolding_all exact Z0.c_loop0))
theorem loop0 {st:PySem.Stmt} {w:World} {dp un:Nat} {gd:Option (List Code)} {cs:Scope} {a:Addr} {A₀:Around} {base h₀:Heap} {p:Program} {loose:List Str} {mean:ExcName→Option Value} {mg mb:Str→Option Value} {L:Addr} {s:Shared} {R:Result→Shared→Prop} {P:Flow→Shared→Prop} {m:Str→Option Value} {A:Ad} {dl bl:Addr} {nb nd:Nat} {G:Int→Led} {Tb:Led} {dv:List Value} {dn:List Int} {o1 o2 o3 o4 o5 o6 o7 o8:Obj} {v7:Option Value} : P_loop0 w dp un gd a A₀ base p loose mean mg mb L s R P A dl bl nb nd G Tb dv dn o1 o2 o3 o4 o5 o6 o7 o8 v7 st cs h₀ m:=by with_unfolding_all exact h_93 92 (Nat.lt_succ_self 92) (sk0 |>.set 1 0 w |>.set 12 7 dp |>.set 12 8 un |>.set 42 0 gd |>.set 6 14 a |>.set 2 2 A₀ |>.set 5 2 base |>.set 0 1 p |>.set 35 1 loose |>.set 41 0 mean |>.set 7 4 mg |>.set 7 5 mb |>.set 6 0 L |>.set 4 0 s |>.set 49 0 R |>.set 63 0 P |>.set 25 0 A |>.set 6 22 dl |>.set 6 18 bl |>.set 12 13 nb |>.set 12 21 nd |>.set 26 1 G |>.set 22 15 Tb |>.set 23 6 dv |>.set 24 2 dn |>.set 16 8 o1 |>.set 16 9 o2 |>.set 16 10 o3 |>.set 16 11 o4 |>.set 16 12 o5 |>.set 16 13 o6 |>.set 16 14 o7 |>.set 16 15 o8 |>.set 38 8 v7) st cs h₀ m
theorem e114_1:True:=trivial
end
end Mine
namespace Mine
open PyProof.V PyProof.Rows.LCg
namespace Z0
theorem c_mm_end:∀ C x i,P_mm_end w h₀ (k5 3) L (k6 11) d m (k16 16) (k23 8) (k22 10) (k22 11) news s (k3 3) Lo (k14 11) (k14 12) (k14 37) (k14 38) (k14 39) (k14 40) (k12 23) C x i:=by
  intro C x i f1 hJ hnw hD hDC F N l1 l2
  refine oa3 hJ ?_;(try clear hJ);intro hsub hlen z0;refine oe8 z0 ?_;(try clear z0);intro ma md t1 t2 t3 t4 t5 t6 z1;refine oa2 z1 ?_;(try clear z1);intro hk ho
  have hCd : @LT.lt Nat _ C d:=l1 (C,(k16 16)) (.head _)
  refine f1 _ _ _ ((x,instObj 254 d)::(d,mkD w (k14 11) (k14 12) (k14 37) (k14 38) (.int (i:Int) (k14 39)) .none (.int 0 (k14 40)))::(k22 10)) F (News.sub N fun q hq=>?_) (fun p hp=>?_) ⟨fun q hq=>.tail _ (.tail _ (hsub q hq)),by rw [List.length_append,hlen];rfl,fun k=>if k=i then x else ma k,fun k=>if k=i then d else md k,fun k=>if k=i then (k14 11) else t1 k,fun k=>if k=i then (k14 12) else t2 k,fun k=>if k=i then (k14 37) else t3 k,fun k=>if k=i then (k14 38) else t4 k,fun k=>if k=i then (k14 39) else t5 k,fun k=>if k=i then (k14 40) else t6 k,fun k hki=>?_,fun k hki=>?_⟩
  · revert q;k_extra "sb"
  · rcases List.mem_cons.mp hp with rfl | hp
    · exact .inr (Nat.lt_trans hCd l2)
    · rcases List.mem_cons.mp hp with rfl | hp
      · exact .inr hCd
      · exact hnw p hp
  · by_cases e:k=i
    · subst e
      simp only [if_true]
      exact ⟨by rw [List.getElem?_append_right (by omega),hlen];simp,.head _,.tail _ (.head _),Nat.lt_of_le_of_lt hD (Nat.lt_trans hDC hCd),l2⟩
    · simp only [e,if_false]
      refine oa5 (hk k (by omega)) ?_;intro h1 h2 h3 h4 h5
      exact ⟨by rw [List.getElem?_append_left (by omega)];exact h1,.tail _ (.tail _ h2),.tail _ (.tail _ h3),h4,h5⟩
  · have e1 : ¬ k=i:=by omega
    by_cases e:k+1=i
    · simp only [e,if_true,e1,if_false]
      have:=l1 _ (.tail _ (.tail _ (List.mem_append.mpr (.inl (hk k (by omega)).2.1))))
      exact this
    · simp only [e,e1,if_false]
      exact ho k (by omega)
end Z0
theorem h_94:∀ j,j<94→∀ u,Pf j u:=histS 93 h_93 (gen 93 h_93 (by with_unfolding_all exact Z0.c_mm_end))
theorem mm_end {w:World} {h₀ h':Heap} {L C D x d:Addr} {m:Str→Option Value} {oC:Obj} {zs:List Value} {nw own news:Led} {s:Shared} {P1:Value→Shared→Prop} {Lo i:Nat} {u1 u2 u3 u4 u5 u6:Tok} {tk:Nat} : P_mm_end w h₀ h' L D d m oC zs nw own news s P1 Lo u1 u2 u3 u4 u5 u6 tk C x i:=by with_unfolding_all exact h_94 93 (Nat.lt_succ_self 93) (sk0 |>.set 1 0 w |>.set 5 0 h₀ |>.set 5 3 h' |>.set 6 0 L |>.set 6 11 D |>.set 6 26 d |>.set 7 0 m |>.set 16 16 oC |>.set 23 8 zs |>.set 22 10 nw |>.set 22 11 own |>.set 22 2 news |>.set 4 0 s |>.set 3 3 P1 |>.set 12 22 Lo |>.set 14 11 u1 |>.set 14 12 u2 |>.set 14 37 u3 |>.set 14 38 u4 |>.set 14 39 u5 |>.set 14 40 u6 |>.set 12 23 tk) C x i
namespace Z0
theorem c_bf_ids:∀ sz G,P_bf_ids w (k25 1) (k60 2) (k60 3) (k15 10) (k12 3) sz G:=by
  intro sz G hj hB
  obtain ⟨T,vn,vm,ct,st,tp,tb,tz,u1,g1,g2,g3,g4,g5,g6,g7,tr,ticks,gs,ge,its,n,o,kvs,e,⟨q0,q1,q2,q3,q4,q5,q6,q7⟩⟩:=hB
  refine ⟨T,vn,vm,ct,st,tp,tb,tz,u1,g1,g2,g3,g4,g5,g6,g7,tr,ticks,gs,ge,its,n,o,kvs,e,⟨q0,q1,q2,q3,q4,q5,fun i v=>⟨fun h=>?_,fun h=>?_⟩,q7⟩⟩
  · exact absurd ((q6 i v).mp h).1 (fun h=>nomatch h)
  · have:=sides_iff.mp hj
    have:=h.2.1
    omega
end Z0
theorem h_95:∀ j,j<95→∀ u,Pf j u:=histS 94 h_94 (gen 94 h_94 (by with_unfolding_all exact Z0.c_bf_ids))
theorem bf_ids {w:World} {A0:Ad} {ma md:Int→Addr} {j sz:Int} {lim:Nat} {G:Led} : P_bf_ids w A0 ma md j lim sz G:=by with_unfolding_all exact h_95 94 (Nat.lt_succ_self 94) (sk0 |>.set 1 0 w |>.set 25 1 A0 |>.set 60 2 ma |>.set 60 3 md |>.set 15 10 j |>.set 12 3 lim) sz G
namespace Z0
theorem c_mk_state:∀ zs,P_mk_state w (k25 1) h₀ h L (k6 11) G sz (k22 10) news Lo zs:=by
  intro zs ok0 hG hGn hJ N hLo hnw
  refine oa3 hJ ?_;(try clear hJ);intro hsub hlen z0;refine oe8 z0 ?_;(try clear z0);intro ma md t1 t2 t3 t4 t5 t6 z1;refine oa2 z1 ?_;(try clear z1);intro hk ho
  have ez:=c4_list hlen fun k h=>(hk k h).1
  subst ez
  refine oa5 (hk 0 (by decide)) ?_;intro z52 a0 b0 lo0 l0;obtain-:= z52
  refine oa5 (hk 1 (by decide)) ?_;intro z53 a1 b1 lo1 l1;obtain-:= z53
  refine oa5 (hk 2 (by decide)) ?_;intro z54 a2 b2 lo2 l2;obtain-:= z54
  refine oa5 (hk 3 (by decide)) ?_;intro z55 a3 b3 lo3 l3;obtain-:= z55
  have o0:=ho 0 (by decide)
  have o1:=ho 1 (by decide)
  have o2:=ho 2 (by decide)
  have okA:Ad.Ok { (k25 1) with ma:=fun i=>ma i.toNat,md:=fun i=>md i.toNat }:=⟨ok0.blk,ok0.two,Nat.lt_trans hLo lo0,⟨l0,o0,l1,o1,l2,o2,l3⟩,ok0.low⟩
  refine ⟨{ (k25 1) with ma:=fun i=>ma i.toNat,md:=fun i=>md i.toNat },ids.flatMap (fun i:Int=>[(ma i.toNat,instObj 254 (md i.toNat)),(md i.toNat,mkD w (t1 i.toNat) (t2 i.toNat) (t3 i.toNat) (t4 i.toNat) (.int i (t5 i.toNat)) .none (.int 0 (t6 i.toNat)))])++sides.flatMap G,okA,rfl,⟨(fun i:Int=>[(ma i.toNat,instObj 254 (md i.toNat)),(md i.toNat,mkD w (t1 i.toNat) (t2 i.toNat) (t3 i.toNat) (t4 i.toNat) (.int i (t5 i.toNat)) .none (.int 0 (t6 i.toNat)))]),G,rfl,fun i hi=>⟨_,_,_,_,_,_,rfl⟩,fun j hj=>?_⟩,News.sub N fun q hq=>?_,?_⟩
  · have em:Sg.mark { (k25 1) with ma:=fun i=>ma i.toNat,md:=fun i=>md i.toNat } { home:=fun _=>-1,pos:=fun _=>0,size:=sz,point:=fun _=>1,marked:=false,lim:=62:Sg } j=.none:=by
      unfold Sg.mark
      split
      · rfl
      · rfl
    rw [em]
    exact bf_ids hj (hG j hj)
  · rcases List.mem_cons.mp hq with rfl | hq
    · exact .head _
    · refine .tail _ ?_
      rcases List.mem_append.mp hq with hq | hq
      · rcases List.mem_append.mp hq with hq | hq
        · refine oe1 (List.mem_flatMap.mp hq) ?_;intro i z0;refine oa2 z0 ?_;(try clear z0);intro hi hq
          have:=ids4 hi
          simp only [List.mem_cons,List.not_mem_nil,or_false] at hq
          rcases this with rfl | rfl | rfl | rfl
          · rcases hq with rfl | rfl
            · exact a0
            · exact b0
          · rcases hq with rfl | rfl
            · exact a1
            · exact b1
          · rcases hq with rfl | rfl
            · exact a2
            · exact b2
          · rcases hq with rfl | rfl
            · exact a3
            · exact b3
        · refine oe1 (List.mem_flatMap.mp hq) ?_;intro j z0;refine oa2 z0 ?_;(try clear z0);intro hj hq
          exact hsub q (hGn j hj q hq)
      · exact hsub q hq
  · intro a ha
    have two:=ok0.two
    refine and8 (ok0.blk 1 (by decide)) ?_;intro r1 r2 r3 r4 r5 r6 r7 r8
    refine and8 (ok0.blk 0 (by decide)) ?_;intro q1 q2 q3 q4 q5 q6 q7 q8
    rcases List.mem_append.mp ha with ha | ha
    · right
      refine oe1 (List.mem_flatMap.mp ha) ?_;intro i z0;refine oa2 z0 ?_;(try clear z0);intro hi ha
      have hi4:=ids_iff.mp hi
      refine oa5 (hk i.toNat (by omega)) ?_;intro z56 a9 b9 lo9 l9;obtain-:= z56
      have h1:=hnw _ a9
      have h2:=hnw _ b9
      simp only [Ad.mAd,List.mem_cons,List.not_mem_nil,or_false] at ha
      rcases ha with rfl | rfl
      · rcases h1 with h1 | h1
        · exact absurd (Nat.lt_trans h1 (Nat.lt_trans lo9 l9)) (Nat.lt_irrefl _)
        · exact h1
      · rcases h2 with h2 | h2
        · exact absurd (Nat.lt_trans h2 lo9) (Nat.lt_irrefl _)
        · exact h2
    · left
      refine oe1 (List.mem_flatMap.mp ha) ?_;intro j z0;refine oa2 z0 ?_;(try clear z0);intro hj ha
      refine oa2 (bAd_lo ok0 hj a ha) ?_;intro h1 h2
      have:=sides2 hj
      rcases this with rfl | rfl <;> omega
end Z0
theorem h_96:∀ j,j<96→∀ u,Pf j u:=histS 95 h_95 (gen 95 h_95 (by with_unfolding_all exact Z0.c_mk_state))
theorem mk_state {w:World} {A0:Ad} {h₀ h:Heap} {L D:Addr} {G:Int→Led} {sz:Int→Int} {zs:List Value} {nw news:Led} {Lo:Nat} : P_mk_state w A0 h₀ h L D G sz nw news Lo zs:=by with_unfolding_all exact h_96 95 (Nat.lt_succ_self 95) (sk0 |>.set 1 0 w |>.set 25 1 A0 |>.set 5 0 h₀ |>.set 5 1 h |>.set 6 0 L |>.set 6 11 D |>.set 26 1 G |>.set 21 6 sz |>.set 22 10 nw |>.set 22 2 news |>.set 12 22 Lo) zs
end Mine
namespace Mine
open PyProof.V PyProof.Rows.LCg
namespace Z0
theorem c_mk_bufs:∀ t0 t1,P_mk_bufs w (k6 27) (k6 28) (k6 29) (k6 30) (k6 31) (k6 32) (k6 33) (k6 34) (k14 41) (k14 42) (k14 43) (k14 44) (k14 45) (k14 46) (k14 47) (k14 48) (k14 49) (k14 50) (k14 51) (k14 52) (k14 53) (k14 54) (k14 55) (k14 56) (k14 57) (k14 58) (k14 59) (k14 60) (k10 29) (k10 30) (k10 31) (k10 32) (k14 61) (k14 62) (k14 63) (k14 64) (k14 65) (k14 66) (k14 67) (k14 68) (k14 69) (k14 70) (k14 71) (k14 72) (k12 25) (k9 3) (k16 18) (k6 35) (k6 36) (k6 37) (k6 38) (k6 39) (k6 40) (k6 41) ls1 (k14 73) (k14 74) (k14 75) (k14 76) (k14 77) (k14 78) (k14 79) (k14 80) (k14 81) (k14 82) (k14 83) (k14 84) (k14 85) (k14 86) (k14 87) (k14 88) (k14 89) (k14 90) (k14 91) (k14 92) (k10 33) (k10 34) (k10 35) (k10 36) (k14 93) (k14 94) (k14 95) (k14 96) (k14 97) (k14 98) (k14 99) (k14 100) (k14 101) (k14 102) (k14 103) (k14 104) (k12 11) (k9 4) (k16 19) t0 t1:=by
  intro t0 t1 ord0 ord1 h01 sz0 sz1 rows0 rows1 low0 low1
  have h2:∀ j∈sides,j=0∨j=1:=fun j hj=>by
    have:=sides_iff.mp hj
    omega
  refine ⟨{ ma:=fun i=>ls1+2 * i.toNat+2,md:=fun i=>ls1+2 * i.toNat+1,b:=fun j=>if j=0 then (k6 27) else (k6 35),bd:=fun j=>if j=0 then (k6 28) else (k6 36),t:=fun j=>if j=0 then t0 else t1,td:=fun j=>if j=0 then (k6 29) else (k6 37),c:=fun j=>if j=0 then (k6 30) else (k6 38),k:=fun j=>if j=0 then (k6 31) else (k6 39),kd:=fun j=>if j=0 then (k6 32) else (k6 40),r:=fun j=>if j=0 then (k6 33) else (k6 41),ls:=fun j=>if j=0 then (k6 34) else ls1:Ad },fun j=>if j=0 then [((k6 27),instObj 428 (k6 28)),((k6 28),bufD w (tok20 [(k14 41),(k14 42),(k14 43),(k14 44),(k14 45),(k14 46),(k14 47),(k14 48),(k14 49),(k14 50),(k14 51),(k14 52),(k14 53),(k14 54),(k14 55),(k14 56),(k14 57),(k14 58),(k14 59),(k14 60)]) (k10 29) (k10 30) t0 (k6 31) (.int 1 (k14 61)) (.int 1 (k14 62)) (.int 1 (k14 63)) .none (.int 1 (k14 64)) (k10 31) (k10 32) (k6 34)),(t0,instObj 177 (k6 29)),((k6 29),gapD w (k14 65) (k14 66) (k14 67) (k14 68) (.int 8 (k14 69)) (k6 30) (.int 0 (k14 70)) (.int 8 (k14 71))),((k6 30),listOf (k9 3) (k12 25)),((k6 31),instObj 322 (k6 32)),((k6 32),rowsD w (k14 72) (k6 33)),((k6 33),(k16 18)),((k6 34),listOf #[] 0)] else [((k6 35),instObj 428 (k6 36)),((k6 36),bufD w (tok20 [(k14 73),(k14 74),(k14 75),(k14 76),(k14 77),(k14 78),(k14 79),(k14 80),(k14 81),(k14 82),(k14 83),(k14 84),(k14 85),(k14 86),(k14 87),(k14 88),(k14 89),(k14 90),(k14 91),(k14 92)]) (k10 33) (k10 34) t1 (k6 39) (.int 1 (k14 93)) (.int 1 (k14 94)) (.int 1 (k14 95)) .none (.int 1 (k14 96)) (k10 35) (k10 36) ls1),(t1,instObj 177 (k6 37)),((k6 37),gapD w (k14 97) (k14 98) (k14 99) (k14 100) (.int 8 (k14 101)) (k6 38) (.int 0 (k14 102)) (.int 8 (k14 103))),((k6 38),listOf (k9 4) (k12 11)),((k6 39),instObj 322 (k6 40)),((k6 40),rowsD w (k14 104) (k6 41)),((k6 41),(k16 19)),(ls1,listOf #[] 0)],⟨fun j hj=>?_,h01,?_,?_,fun j hj=>?_⟩,rfl,rfl,rfl,rfl,fun j hj=>?_,fun q hq=>?_,fun q hq=>?_⟩
  · rcases h2 j hj with rfl | rfl
    · exact ord0
    · exact ord1
  · show @LT.lt Nat _ ls1 (ls1+2 * 0+1);omega
  · show (@LT.lt Nat _ (ls1+2 * 0+1) (ls1+2 * 0+2))∧(@LT.lt Nat _ (ls1+2 * 0+2) (ls1+2 * 1+1))∧(@LT.lt Nat _ (ls1+2 * 1+1) (ls1+2 * 1+2))∧(@LT.lt Nat _ (ls1+2 * 1+2) (ls1+2 * 2+1))∧(@LT.lt Nat _ (ls1+2 * 2+1) (ls1+2 * 2+2))∧(@LT.lt Nat _ (ls1+2 * 2+2) (ls1+2 * 3+1))∧(@LT.lt Nat _ (ls1+2 * 3+1) (ls1+2 * 3+2))
    omega
  · rcases h2 j hj with rfl | rfl
    · exact low0
    · exact low1
  · rcases h2 j hj with rfl | rfl
    · exact ⟨tok20 [(k14 41),(k14 42),(k14 43),(k14 44),(k14 45),(k14 46),(k14 47),(k14 48),(k14 49),(k14 50),(k14 51),(k14 52),(k14 53),(k14 54),(k14 55),(k14 56),(k14 57),(k14 58),(k14 59),(k14 60)],(k10 29),(k10 30),(k10 31),(k10 32),(k14 61),(k14 62),(k14 63),(k14 64),(k14 65),(k14 66),(k14 67),(k14 68),(k14 69),(k14 70),(k14 71),(k14 72),1,0,8,(k9 3),(k12 25),(k16 18),[],rfl,⟨by omega,by omega,by omega,by omega,by omega,rows0,fun i v=>⟨fun h=>(nomatch h),fun h=>absurd h.1 (fun h=>nomatch h)⟩,Nat.zero_le _⟩⟩
    · exact ⟨tok20 [(k14 73),(k14 74),(k14 75),(k14 76),(k14 77),(k14 78),(k14 79),(k14 80),(k14 81),(k14 82),(k14 83),(k14 84),(k14 85),(k14 86),(k14 87),(k14 88),(k14 89),(k14 90),(k14 91),(k14 92)],(k10 33),(k10 34),(k10 35),(k10 36),(k14 93),(k14 94),(k14 95),(k14 96),(k14 97),(k14 98),(k14 99),(k14 100),(k14 101),(k14 102),(k14 103),(k14 104),1,0,8,(k9 4),(k12 11),(k16 19),[],rfl,⟨by omega,by omega,by omega,by omega,by omega,rows1,fun i v=>⟨fun h=>(nomatch h),fun h=>absurd h.1 (fun h=>nomatch h)⟩,Nat.zero_le _⟩⟩
  · have hq2:q∈[((k6 27),instObj 428 (k6 28)),((k6 28),bufD w (tok20 [(k14 41),(k14 42),(k14 43),(k14 44),(k14 45),(k14 46),(k14 47),(k14 48),(k14 49),(k14 50),(k14 51),(k14 52),(k14 53),(k14 54),(k14 55),(k14 56),(k14 57),(k14 58),(k14 59),(k14 60)]) (k10 29) (k10 30) t0 (k6 31) (.int 1 (k14 61)) (.int 1 (k14 62)) (.int 1 (k14 63)) .none (.int 1 (k14 64)) (k10 31) (k10 32) (k6 34)),(t0,instObj 177 (k6 29)),((k6 29),gapD w (k14 65) (k14 66) (k14 67) (k14 68) (.int 8 (k14 69)) (k6 30) (.int 0 (k14 70)) (.int 8 (k14 71))),((k6 30),listOf (k9 3) (k12 25)),((k6 31),instObj 322 (k6 32)),((k6 32),rowsD w (k14 72) (k6 33)),((k6 33),(k16 18)),((k6 34),listOf #[] 0)]:=hq
    exact sbi hq2 (by k_extra "sb")
  · have hq2:q∈[((k6 35),instObj 428 (k6 36)),((k6 36),bufD w (tok20 [(k14 73),(k14 74),(k14 75),(k14 76),(k14 77),(k14 78),(k14 79),(k14 80),(k14 81),(k14 82),(k14 83),(k14 84),(k14 85),(k14 86),(k14 87),(k14 88),(k14 89),(k14 90),(k14 91),(k14 92)]) (k10 33) (k10 34) t1 (k6 39) (.int 1 (k14 93)) (.int 1 (k14 94)) (.int 1 (k14 95)) .none (.int 1 (k14 96)) (k10 35) (k10 36) ls1),(t1,instObj 177 (k6 37)),((k6 37),gapD w (k14 97) (k14 98) (k14 99) (k14 100) (.int 8 (k14 101)) (k6 38) (.int 0 (k14 102)) (.int 8 (k14 103))),((k6 38),listOf (k9 4) (k12 11)),((k6 39),instObj 322 (k6 40)),((k6 40),rowsD w (k14 104) (k6 41)),((k6 41),(k16 19)),(ls1,listOf #[] 0)]:=hq
    exact sbi hq2 (by k_extra "sb")
end Z0
theorem h_97:∀ j,j<97→∀ u,Pf j u:=histS 96 h_96 (gen 96 h_96 (by with_unfolding_all exact Z0.c_mk_bufs))
theorem mk_bufs {w:World} {b0 bd0 t0 td0 c0 k0 kd0 r0 ls0:Addr} {T0a0 T1a0 T2a0 T3a0 T4a0 T5a0 T6a0 T7a0 T8a0 T9a0 T10a0 T11a0 T12a0 T13a0 T14a0 T15a0 T16a0 T17a0 T18a0 T19a0:Tok} {vn0 vm0 ct0 st0:Value} {tp0 tb0 tz0 u10 g10 g20 g30 g40 g50 g60 g70 tr0:Tok} {n0:Nat} {its0:Array Value} {ob0:Obj} {b1 bd1 t1 td1 c1 k1 kd1 r1 ls1:Addr} {T0a1 T1a1 T2a1 T3a1 T4a1 T5a1 T6a1 T7a1 T8a1 T9a1 T10a1 T11a1 T12a1 T13a1 T14a1 T15a1 T16a1 T17a1 T18a1 T19a1:Tok} {vn1 vm1 ct1 st1:Value} {tp1 tb1 tz1 u11 g11 g21 g31 g41 g51 g61 g71 tr1:Tok} {n1:Nat} {its1:Array Value} {ob1:Obj} : P_mk_bufs w b0 bd0 td0 c0 k0 kd0 r0 ls0 T0a0 T1a0 T2a0 T3a0 T4a0 T5a0 T6a0 T7a0 T8a0 T9a0 T10a0 T11a0 T12a0 T13a0 T14a0 T15a0 T16a0 T17a0 T18a0 T19a0 vn0 vm0 ct0 st0 tp0 tb0 tz0 u10 g10 g20 g30 g40 g50 g60 g70 tr0 n0 its0 ob0 b1 bd1 td1 c1 k1 kd1 r1 ls1 T0a1 T1a1 T2a1 T3a1 T4a1 T5a1 T6a1 T7a1 T8a1 T9a1 T10a1 T11a1 T12a1 T13a1 T14a1 T15a1 T16a1 T17a1 T18a1 T19a1 vn1 vm1 ct1 st1 tp1 tb1 tz1 u11 g11 g21 g31 g41 g51 g61 g71 tr1 n1 its1 ob1 t0 t1:=by with_unfolding_all exact h_97 96 (Nat.lt_succ_self 96) (sk0 |>.set 1 0 w |>.set 6 27 b0 |>.set 6 28 bd0 |>.set 6 29 td0 |>.set 6 30 c0 |>.set 6 31 k0 |>.set 6 32 kd0 |>.set 6 33 r0 |>.set 6 34 ls0 |>.set 14 41 T0a0 |>.set 14 42 T1a0 |>.set 14 43 T2a0 |>.set 14 44 T3a0 |>.set 14 45 T4a0 |>.set 14 46 T5a0 |>.set 14 47 T6a0 |>.set 14 48 T7a0 |>.set 14 49 T8a0 |>.set 14 50 T9a0 |>.set 14 51 T10a0 |>.set 14 52 T11a0 |>.set 14 53 T12a0 |>.set 14 54 T13a0 |>.set 14 55 T14a0 |>.set 14 56 T15a0 |>.set 14 57 T16a0 |>.set 14 58 T17a0 |>.set 14 59 T18a0 |>.set 14 60 T19a0 |>.set 10 29 vn0 |>.set 10 30 vm0 |>.set 10 31 ct0 |>.set 10 32 st0 |>.set 14 61 tp0 |>.set 14 62 tb0 |>.set 14 63 tz0 |>.set 14 64 u10 |>.set 14 65 g10 |>.set 14 66 g20 |>.set 14 67 g30 |>.set 14 68 g40 |>.set 14 69 g50 |>.set 14 70 g60 |>.set 14 71 g70 |>.set 14 72 tr0 |>.set 12 25 n0 |>.set 9 3 its0 |>.set 16 18 ob0 |>.set 6 35 b1 |>.set 6 36 bd1 |>.set 6 37 td1 |>.set 6 38 c1 |>.set 6 39 k1 |>.set 6 40 kd1 |>.set 6 41 r1 |>.set 6 42 ls1 |>.set 14 73 T0a1 |>.set 14 74 T1a1 |>.set 14 75 T2a1 |>.set 14 76 T3a1 |>.set 14 77 T4a1 |>.set 14 78 T5a1 |>.set 14 79 T6a1 |>.set 14 80 T7a1 |>.set 14 81 T8a1 |>.set 14 82 T9a1 |>.set 14 83 T10a1 |>.set 14 84 T11a1 |>.set 14 85 T12a1 |>.set 14 86 T13a1 |>.set 14 87 T14a1 |>.set 14 88 T15a1 |>.set 14 89 T16a1 |>.set 14 90 T17a1 |>.set 14 91 T18a1 |>.set 14 92 T19a1 |>.set 10 33 vn1 |>.set 10 34 vm1 |>.set 10 35 ct1 |>.set 10 36 st1 |>.set 14 93 tp1 |>.set 14 94 tb1 |>.set 14 95 tz1 |>.set 14 96 u11 |>.set 14 97 g11 |>.set 14 98 g21 |>.set 14 99 g31 |>.set 14 100 g41 |>.set 14 101 g51 |>.set 14 102 g61 |>.set 14 103 g71 |>.set 14 104 tr1 |>.set 12 11 n1 |>.set 9 4 its1 |>.set 16 19 ob1) t0 t1
end Mine
namespace Mine
namespace Z0
theorem c_to_led0:P_to_led0 h₀ h L bl dl (k16 20) (k16 21) (k22 16) (k22 17) Tb G (k16 8) (k16 9) (k16 10) (k16 11) (k16 12) (k16 13) o7 o8:=by
  intro hG0 hG1 N
  exact News.sub N fun q hq=>by
    revert q
    repeat' first | with_reducible refine sbc ?_ ?_ | with_reducible refine sba ?_ ?_
    all_goals first | k_extra "mem" | k_extra "opq" | exact fun q h=>sbi (hG0 q h) (by k_extra "opq") | exact fun q h=>sbi (hG1 q h) (by k_extra "opq")
end Z0
theorem h_98:∀ j,j<98→∀ u,Pf j u:=histS 97 h_97 (gen 97 h_97 (by with_unfolding_all exact Z0.c_to_led0))
theorem to_led0 {h₀ h:Heap} {L bl dl:Addr} {X Y:Obj} {M0 M1 Tb:Led} {G:Int→Led} {o1 o2 o3 o4 o5 o6 o7 o8:Obj} : P_to_led0 h₀ h L bl dl X Y M0 M1 Tb G o1 o2 o3 o4 o5 o6 o7 o8:=by with_unfolding_all exact h_98 97 (Nat.lt_succ_self 97) (sk0 |>.set 5 0 h₀ |>.set 5 1 h |>.set 6 0 L |>.set 6 18 bl |>.set 6 22 dl |>.set 16 20 X |>.set 16 21 Y |>.set 22 16 M0 |>.set 22 17 M1 |>.set 22 15 Tb |>.set 26 1 G |>.set 16 8 o1 |>.set 16 9 o2 |>.set 16 10 o3 |>.set 16 11 o4 |>.set 16 12 o5 |>.set 16 13 o6 |>.set 16 14 o7 |>.set 16 15 o8)
namespace Z0
theorem c_to_led1:P_to_led1 h₀ h L bl dl (k6 11) (k16 20) (k16 21) S Tb G A (k25 2) nb (k16 8) (k16 9) (k16 10) (k16 11) (k16 12) (k16 13) o7 o8:=by
  intro eb N
  rw [eb]
  refine News.sub N fun q hq=>?_
  revert q;k_extra "sb"
end Z0
theorem h_99:∀ j,j<99→∀ u,Pf j u:=histS 98 h_98 (gen 98 h_98 (by with_unfolding_all exact Z0.c_to_led1))
theorem to_led1 {h₀ h:Heap} {L bl dl D:Addr} {X Y:Obj} {S Tb:Led} {G:Int→Led} {A A2:Ad} {nb:Nat} {o1 o2 o3 o4 o5 o6 o7 o8:Obj} : P_to_led1 h₀ h L bl dl D X Y S Tb G A A2 nb o1 o2 o3 o4 o5 o6 o7 o8:=by with_unfolding_all exact h_99 98 (Nat.lt_succ_self 98) (sk0 |>.set 5 0 h₀ |>.set 5 1 h |>.set 6 0 L |>.set 6 18 bl |>.set 6 22 dl |>.set 6 11 D |>.set 16 20 X |>.set 16 21 Y |>.set 22 4 S |>.set 22 15 Tb |>.set 26 1 G |>.set 25 0 A |>.set 25 2 A2 |>.set 12 13 nb |>.set 16 8 o1 |>.set 16 9 o2 |>.set 16 10 o3 |>.set 16 11 o4 |>.set 16 12 o5 |>.set 16 13 o6 |>.set 16 14 o7 |>.set 16 15 o8)
section
variable {prog:Program} {w:World} {A:Around} {E:Value→Shared→Prop} {s:Shared} {h₀:Heap} {L:Addr} {m:Str→Option Value} {news:Led} {l:Addr} {n:Nat} {v:Value} {u:Tok} {Q:Value→Shared→Prop}
theorem mul4 (F:Fr h₀ L s.heap m) (N:News h₀ L s.heap news) (hm:(l,listOf #[v] n)∈news) (h:∀ D h',Fr h₀ L h' m→News h₀ L h' ((D,listOf #[v,v,v,v] 0)::news)→(∀ p∈news,p.1<D)→Q (.ref D) { s with heap:=h' }) : wpAny (model prog w) A (binaryOp .Mult (.ref l) (.int 4 u)) Q E s :=
  PySem.W.KMa.mul (vs:=[v]) (ws:=[v,v,v,v]) F N ⟨_,(N _ hm).1,rfl,n,rfl⟩ (by decide) (by decide) (by show (1 * 4:Nat)≤256;omega) rfl h
end
theorem kw118_1:True:=by
  k_with "binaryOp Mult ref int" => ((fail_if_success have:=@e118_1);k_here;k_dflt (refine' mul4 ?F ?N ?l ?_;(case F=>k_asm);(case N=>k_asm);(case l=>k_mem);k_whole);intro D' h' F' N' l1;(try k_lt l1);(try k_sweep))
  trivial
namespace Z3
theorem c_lap_start:P_lap_start w L A (k21 6) S dl bl ow sp hl (k6 16) tp (k6 44) (k6 28) (k6 42) (k16 22) (k16 23) h₀ h m' dv dn nd nb no ns nh s0 s1 b b' o1 o2 o3 o4 o5 o6 o7 o8:=by
  intro ok hS N x9 di dz hsz hdl hdb hbl hbd hbo ltp h1 h2 h3 hA lt e1 e2 e3 cs c6 c8
  have lA:∀ a∈A.all,@LT.lt Nat _ a tp:=fun a ha=>by
    rw [← hS.adr] at ha
    refine oe1 (List.mem_map.mp ha) ?_;intro q z0;refine oa2 z0 ?_;(try clear z0);intro hq z57;obtain rfl:=z57
    exact allLt_mem ltp.2.2.2.2.2.2.2.2.2.2.2 q (List.mem_append.mpr (.inl hq))
  have lot:=ltp.1
  clear ltp
  refine ⟨News.sub N fun q hq=>?_,fun I oI hI=>?_⟩
  · revert q;k_extra "sb"
  · have i_dl : @LT.lt Nat _ dl I:=hI (dl,listOf (List.toArray dv) nd) (by k_extra "mem")
    have i_bl : @LT.lt Nat _ bl I:=hI (bl,listOf #[.ref (A.b 0),.ref (A.b 1)] nb) (by k_extra "mem")
    have i_ow : @LT.lt Nat _ ow I:=hI (ow,listOf #[.ref (A.ma 0),.ref (A.ma 1),.ref (A.ma 2),.ref (A.ma 3)] no) (by k_extra "mem")
    have i_sp : @LT.lt Nat _ sp I:=hI (sp,listOf #[.int 1 s0,.int 1 s1] ns) (by k_extra "mem")
    have i_hl : @LT.lt Nat _ hl I:=hI (hl,listOf #[.ref tp,.ref tp,.ref tp,.ref tp] nh) (by k_extra "mem")
    have iA:∀ a∈A.all,@LT.lt Nat _ a I:=fun a ha=>by
      have:=lA a ha
      omega
    have nA:∀ a:Nat,(@LE.le Nat _ tp a∨@LT.lt Nat _ a (k6 28)∨(@LT.lt Nat _ (k6 42) a∧@LE.le Nat _ a ow))→a ∉ A.all:=fun a h hm=>by
      have x1:=hA a hm
      have x2:=lA a hm
      omega
    have key:∀ a:Nat,a∈([dl,bl,ow,sp,hl,tp,tp,tp,tp] : List Nat)→(L+8<a∧a≠I)∧(@LE.le Nat _ tp a∨@LT.lt Nat _ a (k6 28)∨(@LT.lt Nat _ (k6 42) a∧@LE.le Nat _ a ow)):=fun a h=>by
      simp only [List.mem_cons,List.not_mem_nil,or_false] at h
      rcases h with rfl | rfl | rfl | rfl | rfl | rfl | rfl | rfl | rfl <;> exact ⟨⟨by omega,by omega⟩,by omega⟩
    refine ⟨({ home:=fun _=>-1,pos:=fun _=>0,size:=(k21 6),point:=fun _=>1,marked:=false,lim:=62 } : Sg),hl,fun _=>tp,fun _=>b,fun _=>b',S,[(529,tabObj #[])],[(541,tabObj #[])],dv,dn,nd,nb,no,ns,nh,s0,s1,m',o1,o2,o3,o4,o5,o6,o7,o8,⟨ok,hS,TabL.nil,TabL.nil,di,dz,fun i _=>.inl ⟨rfl,rfl⟩,fun j hj=>?_,fun a h=>?_,by omega,lt,fun a h=>nA a (key a h).2,fun q hq=>?_,⟨fun q hq=>?_,fun q hq=>?_⟩,⟨by omega,by omega,by omega,by omega,by omega,by omega,by omega,by omega,by omega⟩,fun i _=>⟨?_,?_,?_⟩⟩,Nat.le_refl _,ml_of e1 e2 e3,rfl,cs,c6,c8⟩
    · have:=hsz j hj
      exact ⟨this.1,(show (k21 6) j≤((62:Nat) : Int) by omega),Int.le_refl 1,(show (1:Int)≤(k21 6) j+1 by omega)⟩
    · rcases List.mem_append.mp h with h | h
      · exact (key a h).1
      · have x1:=hA a h
        have x2:=iA a h
        omega
    · have q2:q.1=(529:Nat)∨q.1=(541:Nat):=by
        simp only [List.mem_append,List.mem_cons,List.not_mem_nil,or_false] at hq
        rcases hq with rfl | rfl
        · exact .inl rfl
        · exact .inr rfl
      have x0 : @LT.lt Nat _ q.1 L:=by
        rcases q2 with e | e <;> rw [e]
        · exact lt.1
        · exact lt.2
      exact ⟨nA q.1 (.inr (.inl (by omega))),by rcases q2 with e | e;exact .inl e;exact .inr (.inl e),by omega,by omega,by omega,by omega⟩
    · rw [List.mem_singleton.mp hq];decide
    · rw [List.mem_singleton.mp hq];decide
    · show @Ne Nat dl tp;omega
    · show @Ne Nat sp tp;omega
    · show @Ne Nat hl tp;omega
end Z3
theorem h_100:∀ j,j<100→∀ u,Pf j u:=histS 99 h_99 (gen 99 h_99 (by with_unfolding_all exact Z3.c_lap_start))
theorem lap_start {w:World} {L:Nat} {A:Ad} {sz:Int→Int} {S:Led} {dl bl ow sp hl l1 tp tq bd0 ls1:Addr} {oq ol:Obj} {h₀ h:Heap} {m':Str→Option Value} {dv:List Value} {dn:List Int} {nd nb no ns nh:Nat} {s0 s1 b b':Tok} {o1 o2 o3 o4 o5 o6 o7 o8:Obj} : P_lap_start w L A sz S dl bl ow sp hl l1 tp tq bd0 ls1 oq ol h₀ h m' dv dn nd nb no ns nh s0 s1 b b' o1 o2 o3 o4 o5 o6 o7 o8:=by with_unfolding_all exact h_100 99 (Nat.lt_succ_self 99) (sk0 |>.set 1 0 w |>.set 12 19 L |>.set 25 0 A |>.set 21 6 sz |>.set 22 4 S |>.set 6 22 dl |>.set 6 18 bl |>.set 6 20 ow |>.set 6 19 sp |>.set 6 21 hl |>.set 6 16 l1 |>.set 6 43 tp |>.set 6 44 tq |>.set 6 28 bd0 |>.set 6 42 ls1 |>.set 16 22 oq |>.set 16 23 ol |>.set 5 0 h₀ |>.set 5 1 h |>.set 7 6 m' |>.set 23 6 dv |>.set 24 2 dn |>.set 12 21 nd |>.set 12 13 nb |>.set 12 15 no |>.set 12 14 ns |>.set 12 16 nh |>.set 14 26 s0 |>.set 14 27 s1 |>.set 14 30 b |>.set 14 31 b' |>.set 16 8 o1 |>.set 16 9 o2 |>.set 16 10 o3 |>.set 16 11 o4 |>.set 16 12 o5 |>.set 16 13 o6 |>.set 16 14 o7 |>.set 16 15 o8)
namespace Z3
theorem c_LapJ_any:P_LapJ_any w L I oI (k16 24) A dl bl ow sp lim m news:=by
  intro J
  obtain ⟨σ,hl,x,u,u',S,T1,T2,dv,dn,nd,nb,no,ns,nh,s0,s1,r,o1,o2,o3,o4,o5,o6,o7,o8,II,hlim,hm,hn,z3,z4,z5⟩:=J
  exact ⟨σ,hl,x,u,u',S,T1,T2,dv,dn,nd,nb,no,ns,nh,s0,s1,r,o1,o2,o3,o4,o5,o6,o7,o8,II,hlim,hm,congrArg _ (List.cons.inj hn).2,z3,z4,z5⟩
end Z3
theorem h_101:∀ j,j<101→∀ u,Pf j u:=histS 100 h_100 (gen 100 h_100 (by with_unfolding_all exact Z3.c_LapJ_any))
theorem LapJ.any {w:World} {L I:Nat} {oI oI':Obj} {A:Ad} {dl bl ow sp:Addr} {lim:Nat} {m:Str→Option Value} {news:Led} : P_LapJ_any w L I oI oI' A dl bl ow sp lim m news:=by with_unfolding_all exact h_101 100 (Nat.lt_succ_self 100) (sk0 |>.set 1 0 w |>.set 12 19 L |>.set 12 20 I |>.set 16 7 oI |>.set 16 24 oI' |>.set 25 0 A |>.set 6 22 dl |>.set 6 18 bl |>.set 6 20 ow |>.set 6 19 sp |>.set 12 3 lim |>.set 7 0 m |>.set 22 2 news)
namespace Z3
theorem c_LapJ_apart:P_LapJ_apart w L I oI A dl bl ow sp lim m news:=by
  intro J
  obtain ⟨σ,hl,x,u,u',S,T1,T2,dv,dn,nd,nb,no,ns,nh,s0,s1,r,o1,o2,o3,o4,o5,o6,o7,o8,II,hlim,hm,hn,z3,z4,z5⟩:=J
  rw [(List.cons.inj hn).2]
  obtain ⟨ok,hS,t1,t2,di,dz,good,pts,lo,lI,lt,na,tt,tn,dis,dix⟩:=II
  have g:∀ a:Nat,a≠I→a<I∨I<a:=fun a h=>by omega
  intro q hq
  refine g q.1 ?_
  simp only [List.mem_cons] at hq
  rcases hq with rfl | rfl | rfl | rfl | rfl | rfl | rfl | rfl | rfl | rfl | rfl | rfl | rfl | rfl | rfl | rfl | rfl | h
  · exact cell_lt (k:=8) (by decide) lI
  · exact cell_lt (k:=7) (by decide) lI
  · exact cell_lt (k:=6) (by decide) lI
  · exact cell_lt (k:=5) (by decide) lI
  · exact cell_lt (k:=4) (by decide) lI
  · exact cell_lt (k:=3) (by decide) lI
  · exact cell_lt (k:=2) (by decide) lI
  · exact cell_lt (k:=1) (by decide) lI
  · exact (lo dl (by k_extra "mem")).2
  · exact (lo bl (by k_extra "mem")).2
  · exact (lo ow (by k_extra "mem")).2
  · exact (lo sp (by k_extra "mem")).2
  · exact (lo hl (by k_extra "mem")).2
  · exact (lo (x 0) (by k_extra "mem")).2
  · exact (lo (x 1) (by k_extra "mem")).2
  · exact (lo (x 2) (by k_extra "mem")).2
  · exact (lo (x 3) (by k_extra "mem")).2
  · rcases List.mem_append.mp h with h | h
    · exact (lo q.1 (List.mem_append.mpr (.inr (hS.adr ▸ List.mem_map.mpr ⟨q,h,rfl⟩)))).2
    · exact (tt q h).2.2.2.2.2
end Z3
theorem h_102:∀ j,j<102→∀ u,Pf j u:=histS 101 h_101 (gen 101 h_101 (by with_unfolding_all exact Z3.c_LapJ_apart))
theorem LapJ.apart {w:World} {L I:Nat} {oI:Obj} {A:Ad} {dl bl ow sp:Addr} {lim:Nat} {m:Str→Option Value} {news:Led} : P_LapJ_apart w L I oI A dl bl ow sp lim m news:=by with_unfolding_all exact h_102 101 (Nat.lt_succ_self 101) (sk0 |>.set 1 0 w |>.set 12 19 L |>.set 12 20 I |>.set 16 7 oI |>.set 25 0 A |>.set 6 22 dl |>.set 6 18 bl |>.set 6 20 ow |>.set 6 19 sp |>.set 12 3 lim |>.set 7 0 m |>.set 22 2 news)
theorem LapJ.tabs {w:World} {L I:Nat} {oI:Obj} {A:Ad} {dl bl ow sp:Addr} {lim:Nat} {m:Str→Option Value} {news:Led} (J:LapJ w L I oI A dl bl ow sp lim m news) : ∃ ps1 ps2,(529,tabObj ps1)∈news∧(541,tabObj ps2)∈news:=by
  obtain ⟨σ,hl,x,u,u',S,T1,T2,dv,dn,nd,nb,no,ns,nh,s0,s1,r,o1,o2,o3,o4,o5,o6,o7,o8,II,hlim,hm,hn,z3,z4,z5⟩:=J
  rw [(List.cons.inj hn).2]
  refine oe2 II.t1 ?_;intro ps1 k1 z0;refine oa2 z0 ?_;(try clear z0);intro e1 _
  refine oe2 II.t2 ?_;intro ps2 k2 z0;refine oa2 z0 ?_;(try clear z0);intro e2 _
  refine ⟨ps1,ps2,?_,?_⟩
  · have:(529,tabObj ps1)∈T1:=by rw [e1];exact .head _
    simp only [List.mem_cons,List.mem_append,this,true_or,or_true]
  · have:(541,tabObj ps2)∈T2:=by rw [e2];exact .head _
    simp only [List.mem_cons,List.mem_append,this,true_or,or_true]
section
theorem kw118_2:True:=by
  k_with "arith" => ((fail_if_success have:=@e118_1);k_whole;k_extra "ar2")
  k_with "call ref" => ((fail_if_success have:=@e118_1);k_here;(with_reducible show wpAny _ _ (call (Value.ref 513) _) _ _ _);refine Halt.intro ?_)
  k_with "call ref" => ((fail_if_success have:=@e118_1);k_here;(with_reducible show wpAny _ _ (call (Value.ref 428) _) _ _ _);refine Halt.intro ?_)
  k_with "call ref" => ((fail_if_success have:=@e118_1);k_here;(with_reducible show wpAny _ _ (call (Value.ref 254) _) _ _ _);refine Halt.intro ?_)
  k_with "eval ListComp" => ((fail_if_success have:=@e118_1);k_here;refine Halt.intro ?_)
  k_with "exec For" => ((fail_if_success have:=@e118_1);k_here;refine Halt.intro ?_)
  k_with "call type:range" => ((fail_if_success have:=@e118_1);k_here;refine Halt.intro ?_)
  k_with "execs cons" => ((fail_if_success have:=@e118_1);k_here;(with_reducible show wpAny _ _ (execs (Stmt.Assign [PySem.Expr.Tuple [PySem.Expr.Name (ofString "way") _,_,_] _ _] _ _::_) _) _ _ _);refine Halt.intro ?_)
  k_with "exec For Name Call cons nil" => ((fail_if_success have:=@e118_1);k_here;refine Halt.intro ?_)
  trivial
namespace Z0
theorem c_law_rest:∀ body cs,P_law_rest w dp un gd a A₀ base p loose mean mg mb L s (k49 0) P m A G sz dl bl nb nd dv dn (k16 8) (k16 9) (k16 10) (k16 11) (k16 12) (k16 13) o7 o8 (k38 9) (k38 10) (k38 5) (k38 6) (k38 7) v7 (k38 11) body cs:=by
  intro body cs hb hc hd hu XB TB C1 C2 G0 okA F hm N di dz c1 c2 c3 c4 c5 c6 c7 c8 hG hdl hdb hbl lt ret
  cases hb
  cases hc
  dsimp only
  have hd':dp+40<recursionLimit:=by omega
  have hu':un+8 * 40<cLine:=by omega
  refine oa5 (id G0) ?_;intro G0a B X T D0
  have hAA : @LT.lt Nat _ (A.bd 0) (A.ls 1):=by
    have two:=okA.two
    refine oa8 (okA.blk 1 (by decide)) ?_;intro r1 r2 r3 r4 r5 r6 r7 r8
    refine oa8 (okA.blk 0 (by decide)) ?_;intro q1 q2 q3 q4 q5 q6 q7 q8
    omega
  revert X;k_fill;intro X
  k_steps
  unfold Halt
  rw [eval_ListComp]
  refine wpAny_comprehension_free (use:=none) (cl:=[]) rfl ?hs ?hclos rfl ?hnames ?_
  (case hs=>intro _;rfl)
  (case hclos=>rfl)
  (case hnames=>decide +kernel)
  rw [arm_firstIter_cons]
  k_steps
  unfold Halt
  rename Fr _ _ _ _=>F8
  refine' rangeS (n:=4) rfl F8 N rfl ?hz ?hcell rfl rfl ?_
  (case hz=>omega)
  (case hcell=>decide +kernel)
  intro Lo hLo
  have hLbl : @LT.lt Nat _ bl Lo:=hLo (bl,_) (by k_mem)
  refine ⟨JM w _ Lo,⟨fun q hq=>hq,rfl,fun _=>0,fun _=>0,fun _=>0,fun _=>0,fun _=>0,fun _=>0,fun _=>0,fun _=>0,fun k hk=>absurd hk (Nat.not_lt_zero k),fun k hk=>absurd hk (Nat.not_lt_zero (k+1))⟩,?_,?_⟩
  · rintro k v zs C oC D m₂ h tk nw own hk9 ⟨t,rfl⟩ hJ hC hx F N6 hnw hD hDC P1 E' f1
    clear F8 N
    k_steps
    unfold Halt
    refine make_marker _ _ _ _ _ _ _ _ _ _ _ _ _ _ _ _ _ _ _ _ _ _ _ _ _ B F X N6 T rfl (by ktr_room) (by ktr_units) ?_
    intro x d t1 t2 t3 t4 t5 t6 h' tk' N9 F9 l l2
    clear N6 F
    k_steps
    exact mm_end f1 hJ hnw hD hDC F9 N9 l l2
  · rintro D zs nw h tk hJ F9 N9 hnw hD
    have hGn:∀ j∈sides,∀ q∈G j,q∈G 0++(G 1++[(529,tabObj #[]),(541,tabObj #[])]):=fun j hj q hq=>by
      have:=sides2 hj
      rcases this with rfl | rfl
      · exact List.mem_append.mpr (.inl hq)
      · exact List.mem_append.mpr (.inr (List.mem_append.mpr (.inl hq)))
    refine oe2 (mk_state okA (fun j hj=>(hG j hj).2.2) (G:=G) (fun j hj q hq=>by simp only [List.mem_cons];exact (by simp only [hGn j hj q hq,or_true])) hJ N9 (by omega) hnw) ?_;intro A2 S z0;refine oa5 z0 ?_;(try clear z0);intro ok2 eb hS N7 hA2
    have N6:=to_led1 eb N7
    clear N7 N9 N F8 hJ
    have fTb:∀ q∈([(529,tabObj #[]),(541,tabObj #[])] : Led),@Ne Nat q.1 (L+1+1+1+1+1+1+1+1):=fun q hq=>by
      simp only [List.mem_cons,List.not_mem_nil,or_false] at hq
      rcases hq with rfl | rfl
      · show @Ne Nat 529 _;omega
      · show @Ne Nat 541 _;omega
    have nac8:L+1+1+1+1+1+1+1+1 ∉ A2.all:=fun h=>by
      have:=hA2 _ h
      omega
    k_steps
    rename Fr _ _ _ _=>F7
    rename News _ _ _ _=>N7
    unfold Halt
    refine For_X ?_
    refine oa2 (lap_start (ls1:=A.ls 1) (bd0:=A.bd 0) ok2 hS N7 F7 di dz (fun j hj=>⟨(hG j hj).1,(hG j hj).2.1⟩) hdl hdb hbl hAA (by omega) ‹_› (by omega) (by omega) (by omega) hA2 lt hm rfl rfl ⟨_,_,_,_,_,_,c1,c2,c3,c4,c5,c7⟩ c6 ‹_›) ?_;intro N2 J2
    clear N7
    k_steps
    unfold Halt
    refine rangeX (n:=8) (LG w p loose mean mg mb A₀ base) rfl G0 (fun h hh b hb=>hh.1.none_ b hb) F7 N2 (by omega) ?_
    intro I hI
    refine ⟨fun i m' n=>∀ oI,LapJ w L I oI A2 dl bl D _ (62+18 * i) m' n,fun oI=>J2 I oI hI,?_,?_⟩
    · intro i t hi h₀2 m₁ news₁ h₁ tk₁ oI hC hJ hap F1 N1 P9 next9
      clear F7 N2 J2
      refine oa5 (id hC) ?_;intro G9 B9 X9 T9 D9
      k_steps
      unfold Halt
      rename Fr _ _ _ _=>F5
      rename News _ _ _ _=>N5
      exact lap rfl XB TB C1 C2 rfl hd' hu' hC F5 N5 (hJ oI) (by omega) fun h₀' h' tk' m' news' G' F' N' J'=>next9 h₀' h' tk' m' news' G' F' N' J'.apart fun oI'=>(J'.mono (by omega)).any
    · intro h₀' h' tk m' news' hC F' N' hJ
      refine oe2 ((hJ (tabObj #[])).tabs) ?_;intro ps1 ps2 z0;refine oa2 z0 ?_;(try clear z0);intro q1 q2
      clear F7 N2 J2
      refine oa5 (id hC) ?_;intro G9 B9 X9 T9 D9
      k_steps
      exact ret h₀' h' _ m' news' ps1 ps2 hC F' N' q1 q2
end Z0
theorem h_103:∀ j,j<103→∀ u,Pf j u:=histS 102 h_102 (gen 102 h_102 (by with_unfolding_all exact Z0.c_law_rest))
theorem law_rest {body:List PySem.Stmt} {w:World} {dp un:Nat} {gd:Option (List Code)} {cs:Scope} {a:Addr} {A₀:Around} {base:Heap} {p:Program} {loose:List Str} {mean:ExcName→Option Value} {mg mb:Str→Option Value} {L:Addr} {s:Shared} {R:Result→Shared→Prop} {P:Flow→Shared→Prop} {m:Str→Option Value} {A:Ad} {G:Int→Led} {sz:Int→Int} {dl bl:Addr} {nb nd:Nat} {dv:List Value} {dn:List Int} {o1 o2 o3 o4 o5 o6 o7 o8:Obj} {v1 v2 v3 v4 v5 v7 v8:Option Value} : P_law_rest w dp un gd a A₀ base p loose mean mg mb L s R P m A G sz dl bl nb nd dv dn o1 o2 o3 o4 o5 o6 o7 o8 v1 v2 v3 v4 v5 v7 v8 body cs:=by with_unfolding_all exact h_103 102 (Nat.lt_succ_self 102) (sk0 |>.set 1 0 w |>.set 12 7 dp |>.set 12 8 un |>.set 42 0 gd |>.set 6 14 a |>.set 2 2 A₀ |>.set 5 2 base |>.set 0 1 p |>.set 35 1 loose |>.set 41 0 mean |>.set 7 4 mg |>.set 7 5 mb |>.set 6 0 L |>.set 4 0 s |>.set 49 0 R |>.set 63 0 P |>.set 7 0 m |>.set 25 0 A |>.set 26 1 G |>.set 21 6 sz |>.set 6 22 dl |>.set 6 18 bl |>.set 12 13 nb |>.set 12 21 nd |>.set 23 6 dv |>.set 24 2 dn |>.set 16 8 o1 |>.set 16 9 o2 |>.set 16 10 o3 |>.set 16 11 o4 |>.set 16 12 o5 |>.set 16 13 o6 |>.set 16 14 o7 |>.set 16 15 o8 |>.set 38 9 v1 |>.set 38 10 v2 |>.set 38 5 v3 |>.set 38 6 v4 |>.set 38 7 v5 |>.set 38 8 v7 |>.set 38 11 v8) body cs
theorem e118_1:True:=trivial
end
end Mine
namespace Mine
section
theorem kw115_1:True:=by
  k_with "arith" => ((fail_if_success have:=@e115_1);k_whole;k_extra "ar2")
  k_with "call ref" => ((fail_if_success have:=@e115_1);k_here;(with_reducible show wpAny _ _ (call (Value.ref 513) _) _ _ _);refine Halt.intro ?_)
  k_with "call ref" => ((fail_if_success have:=@e115_1);k_here;(with_reducible show wpAny _ _ (call (Value.ref 428) _) _ _ _);refine Halt.intro ?_)
  k_with "exec For" => ((fail_if_success have:=@e115_1);k_here;refine Halt.intro ?_)
  k_with "execs cons" => ((fail_if_success have:=@e115_1);k_here;(with_reducible show wpAny _ _ (execs (Stmt.Assign [PySem.Expr.Tuple [PySem.Expr.Name (ofString "own") _,_,_] _ _] _ _::_) _) _ _ _);refine Halt.intro ?_)
  trivial
namespace Z0
theorem c_law_all:∀ body cs,P_law_all w dp un gd a A₀ base p loose mean mg mb L s (k49 0) P m (k6 25) (k23 0) (k24 4) (k16 8) (k16 9) (k16 10) (k16 11) (k16 12) (k16 13) o7 o8 body cs:=by
  intro body cs hb hd hu F hm X T B hL hi hz C1 C2 D lt N cc1 cc2 cc3 cc4 cc5 cc6 cc7 cc8 ret
  cases hb
  have XB:=X
  have TB:=T
  have G0:KtsTurn ([] : List Addr) base base:=KtsTurn.refl
  have hTb:∀ q∈([(529,tabObj #[]),(541,tabObj #[])] : Led),@LT.lt Nat _ q.1 L:=fun q hq=>by
    simp only [List.mem_cons,List.not_mem_nil,or_false] at hq
    rcases hq with rfl | rfl
    · exact lt.1
    · exact lt.2
  have hd':dp+40<recursionLimit:=by omega
  have hu':un+8 * 40<cLine:=by omega
  revert X;k_fill;intro X
  dsimp only
  k_steps
  unfold Halt
  refine law_deck2 hi hz _ _ _ _ _ _ _ _ _ _ _ _ _ _ _ _ _ _ _ _ _ _ _ B F X N T hL rfl (by ktr_room) (by ktr_units) ?_
  intro dl dv nd dn h' tk' hdi hdz F' N' l1
  clear F N
  have hdl : @LT.lt Nat _ (L+8) dl:=l1 (L+1+1+1+1+1+1+1+1,o8) (.head _)
  clear l1
  k_steps
  unfold Halt
  rename Fr _ _ _ _=>F9
  rename News _ _ _ _=>N9
  refine make_buffer _ _ _ _ _ _ _ _ _ _ _ _ _ _ _ _ _ _ _ _ _ _ _ _ _ _ _ B F9 X N9 T rfl (by ktr_room) (by ktr_units) ?_
  intro b0 bd0 t0 td0 c0 k0 kd0 r0 ls0 T0a0 T1a0 T2a0 T3a0 T4a0 T5a0 T6a0 T7a0 T8a0 T9a0 T10a0 T11a0 T12a0 T13a0 T14a0 T15a0 T16a0 T17a0 T18a0 T19a0 vn0 vm0 ct0 st0 tp0 tb0 tz0 u10 g10 g20 g30 g40 g50 g60 g70 tr0 n0 its0 ob0 h' tk' N' F' l2 ord0 sz0 rows0 low0
  have hdb : @LT.lt Nat _ dl bd0:=l2 (dl,_) (.head _)
  clear F9 N9 l2
  simp only [List.cons_append,List.nil_append] at N'
  k_steps
  unfold Halt
  rename Fr _ _ _ _=>F9
  rename News _ _ _ _=>N9
  refine make_buffer _ _ _ _ _ _ _ _ _ _ _ _ _ _ _ _ _ _ _ _ _ _ _ _ _ _ _ B F9 X N9 T rfl (by ktr_room) (by ktr_units) ?_
  intro b1 bd1 t1 td1 c1 k1 kd1 r1 ls1 T0a1 T1a1 T2a1 T3a1 T4a1 T5a1 T6a1 T7a1 T8a1 T9a1 T10a1 T11a1 T12a1 T13a1 T14a1 T15a1 T16a1 T17a1 T18a1 T19a1 vn1 vm1 ct1 st1 tp1 tb1 tz1 u11 g11 g21 g31 g41 g51 g61 g71 tr1 n1 its1 ob1 h' tk' N' F' l2 ord1 sz1 rows1 low1
  have h01 : @LT.lt Nat _ ls0 bd1:=l2 (ls0,_) (.head _)
  clear F9 N9 l2
  simp only [List.cons_append,List.nil_append] at N'
  k_steps
  unfold Halt
  rename Fr _ _ _ _=>F9
  rename News _ _ _ _=>N9
  obtain ⟨A,G,okA,eb0,eb1,ebd,els,hG,hG0,hG1⟩:=mk_bufs ord0 ord1 h01 sz0 sz1 rows0 rows1 low0 low1
  have hdbA : @LT.lt Nat _ dl (A.bd 0):=by rw [ebd];exact hdb
  subst eb0
  subst eb1
  subst els
  have N7:=to_led0 hG0 hG1 N9
  clear N9 hG0 hG1
  refine' loop0 (A:=A) (nb:=0) rfl rfl hd' hu' B X T okA F9 rfl N7 hdi ?dz ?c6 ?c7 hG hdl hdbA ?hbl hTb ?_
  (case dz=>omega)
  (case c6=>assumption)
  (case c7=>assumption)
  (case hbl=>omega)
  intro h' tk' F' hN
  refine oe1 hN ?_;(try clear hN);intro news' z0;refine oa3 z0 ?_;(try clear z0);intro N' z58 z1;obtain-:= z58;refine oe6 z1 ?_;(try clear z1);intro G' sz dv' dn' nd' o7' z0;refine oa5 z0 ?_;(try clear z0);intro z59 di' dz' z60 hG';obtain rfl:=z59;refine oe1 z60 ?_;(try clear z60);intro v7 c7'
  clear F9 N7
  k_steps
  unfold Halt
  rename Fr _ _ _ _=>F9
  refine law_rest (A:=A) (G:=G') (sz:=sz) rfl rfl hd hu XB TB C1 C2 ⟨G0,B,XB,TB,D⟩ okA F9 rfl N' di' dz' ‹_› ‹_› ‹_› ‹_› ‹_› ‹_› c7' ‹_› ?hG hdl hdbA ?hbl lt ret
  (case hbl=>omega)
  (case hG=>exact fun j hj=>hG' j hj)
end Z0
theorem h_104:∀ j,j<104→∀ u,Pf j u:=histS 103 h_103 (gen 103 h_103 (by with_unfolding_all exact Z0.c_law_all))
theorem law_all {body:List PySem.Stmt} {w:World} {dp un:Nat} {gd:Option (List Code)} {cs:Scope} {a:Addr} {A₀:Around} {base:Heap} {p:Program} {loose:List Str} {mean:ExcName→Option Value} {mg mb:Str→Option Value} {L:Addr} {s:Shared} {R:Result→Shared→Prop} {P:Flow→Shared→Prop} {m:Str→Option Value} {sc:Addr} {vs:List Value} {ns0:List Int} {o1 o2 o3 o4 o5 o6 o7 o8:Obj} : P_law_all w dp un gd a A₀ base p loose mean mg mb L s R P m sc vs ns0 o1 o2 o3 o4 o5 o6 o7 o8 body cs:=by with_unfolding_all exact h_104 103 (Nat.lt_succ_self 103) (sk0 |>.set 1 0 w |>.set 12 7 dp |>.set 12 8 un |>.set 42 0 gd |>.set 6 14 a |>.set 2 2 A₀ |>.set 5 2 base |>.set 0 1 p |>.set 35 1 loose |>.set 41 0 mean |>.set 7 4 mg |>.set 7 5 mb |>.set 6 0 L |>.set 4 0 s |>.set 49 0 R |>.set 63 0 P |>.set 7 0 m |>.set 6 25 sc |>.set 23 0 vs |>.set 24 4 ns0 |>.set 16 8 o1 |>.set 16 9 o2 |>.set 16 10 o3 |>.set 16 11 o4 |>.set 16 12 o5 |>.set 16 13 o6 |>.set 16 14 o7 |>.set 16 15 o8) body cs
theorem e115_1:True:=trivial
end
end Mine
namespace Mine
open PyProof.V PyProof.Rows.LCg
theorem good_end {args:List WData} {cl:Str→Option Addr} {mean:ExcName→Option Value} {s₁ s':Shared} (hk:∀ b o,s₁.heap.get? b=some o→s'.heap.get? b=some o) (hos:s'.os=s₁.os) (hg:s'.gens=#[]) :
    GoodW PySem.Challenge.rw_ok0063_01.row.claim cl mean args s₁ (.ok (.ret (.bool true))) s':=by
  refine ⟨.inl ⟨.bool true,.bool true,[],rfl,raisesW_false (by wrow_none_raised),.bool true,?_,fun _=>⟨.nil,nofun⟩⟩,hk,hos,hg⟩
  exact postW_of (by wrow_shape) (by wtm_val) (by w_fin)
end Mine
namespace Mine
theorem kwEnd:True:=by
  k_with_none
  trivial
theorem fin.tw18178061775844214461:True:=⟨⟩
theorem fin.tw294590611059691863:True:=⟨⟩
theorem fin.tw2824846461999071874:True:=⟨⟩
theorem fin.tw3748057295260388753:True:=⟨⟩
theorem fin.tw9632653540210603081:True:=⟨⟩
theorem fin.tw16598111837705310476:True:=⟨⟩
theorem fin.tw16729419359221583628:True:=⟨⟩
theorem fin.tw15697541115532491088:True:=⟨⟩
theorem fin.tw5212833665933091111:True:=⟨⟩
theorem fin.tw15675102808854859970:True:=⟨⟩
theorem fin.tw11839362037839518811:True:=⟨⟩
theorem fin.tw4054584095202114086:True:=⟨⟩
theorem fin.tw12478083643672913404:True:=⟨⟩
theorem fin.tw14736031815979000324:True:=⟨⟩
theorem fin.tw17471055888533693701:True:=⟨⟩
theorem fin.tw18176387895596863783:True:=⟨⟩
theorem fin.tw6848912972918003917:True:=⟨⟩
theorem fin.tw17457534353331574367:True:=⟨⟩
theorem fin.tw15734922763202457661:True:=⟨⟩
theorem fin.tw17923595913812447142:True:=⟨⟩
theorem fin.tw3130003048842842729:True:=⟨⟩
theorem fin.tw12072802829135307789:True:=⟨⟩
theorem fin.tw14232876856209179772:True:=⟨⟩
theorem fin.tw13199158710529813207:True:=⟨⟩
theorem fin.tw9578429878718019509:True:=⟨⟩
theorem fin.tw10393886385942881009:True:=⟨⟩
theorem fin.tw1921165311934587177:True:=⟨⟩
theorem fin.tw18082680734076937219:True:=⟨⟩
theorem fin.tw11587955951900863698:True:=⟨⟩
theorem fin.tw5196160543931855155:True:=⟨⟩
theorem fin.tw12586190556516072552:True:=⟨⟩
theorem fin.tw1903126291601959907:True:=⟨⟩
theorem fin.tw3063928826164606928:True:=⟨⟩
theorem fin.tw13898374239775968522:True:=⟨⟩
theorem fin.tw15434440284735832900:True:=⟨⟩
theorem fin.tw13119895379190043232:True:=⟨⟩
theorem fin.tw15373703851562958014:True:=⟨⟩
theorem fin.tw3955986520655104412:True:=⟨⟩
theorem fin.tw11454252539852477091:True:=⟨⟩
theorem fin.tw5098551885099359569:True:=⟨⟩
theorem fin.tw14245171486683049214:True:=⟨⟩
theorem fin.tw17449020081951674710:True:=⟨⟩
theorem fin.tw7995362448368537469:True:=⟨⟩
theorem fin.tw373065315874586923:True:=⟨⟩
theorem fin.tw2236755162388048479:True:=⟨⟩
theorem fin.tw4144819383078699286:True:=⟨⟩
theorem fin.tw8416529770105884409:True:=⟨⟩
theorem fin.tw14254621764821748828:True:=⟨⟩
theorem fin.tw7380833856163905736:True:=⟨⟩
theorem fin.tw12171577908484138354:True:=⟨⟩
theorem fin.tw16798467561266328274:True:=⟨⟩
theorem fin.tw612862322836996645:True:=⟨⟩
theorem fin.tw6068950659093879613:True:=⟨⟩
theorem fin.tw17132207802985990308:True:=⟨⟩
theorem fin.tw4043148821406017626:True:=⟨⟩
theorem fin.tw2395962145821203769:True:=⟨⟩
theorem fin.tw3268265519342814607:True:=⟨⟩
theorem fin.tw1625080806587739848:True:=⟨⟩
theorem fin.tw1982079694162106894:True:=⟨⟩
theorem fin.tw7684487725183542926:True:=⟨⟩
theorem fin.tw14431720936831517352:True:=⟨⟩
theorem fin.tw17698704350827878285:True:=⟨⟩
theorem fin.tw7890596953891613788:True:=⟨⟩
theorem fin.tw10818889477481085253:True:=⟨⟩
theorem fin.tw17204297501091165112:True:=⟨⟩
theorem fin.tw12118000046449163591:True:=⟨⟩
theorem fin.tw380778119907437045:True:=⟨⟩
theorem fin.tw18105285910621931680:True:=⟨⟩
theorem fin.tw9725021084223525626:True:=⟨⟩
theorem fin.tw1887099378405440850:True:=⟨⟩
theorem fin.tw3432132637015033673:True:=⟨⟩
theorem fin.tw5486226609284752418:True:=⟨⟩
theorem fin.tw14517287926952318261:True:=⟨⟩
theorem fin.tw3211687289105081006:True:=⟨⟩
theorem fin.tw6968583824967984638:True:=⟨⟩
theorem fin.tw13790858721211988464:True:=⟨⟩
theorem fin.tw16903924287465469464:True:=⟨⟩
theorem fin.tw11209750170652599755:True:=⟨⟩
theorem fin.tw13870153662132920491:True:=⟨⟩
theorem fin.tw8919302590299486024:True:=⟨⟩
theorem fin.tw4992356995671143779:True:=⟨⟩
theorem fin.tw5293390819737331289:True:=⟨⟩
theorem fin.tw7021976415091001641:True:=⟨⟩
theorem fin.tw17656766251404061198:True:=⟨⟩
theorem fin.tw8668149382578428375:True:=⟨⟩
theorem fin.tw12932903420030652473:True:=⟨⟩
theorem fin.tw16867096813858660809:True:=⟨⟩
theorem fin.tw1209720653154232198:True:=⟨⟩
theorem fin.tw2321816554428607280:True:=⟨⟩
theorem fin.tw6525817661751114472:True:=⟨⟩
theorem fin.tw16401934584784274106:True:=⟨⟩
theorem fin.tw6650461044873433052:True:=⟨⟩
theorem fin.tw3506512066687448480:True:=⟨⟩
theorem fin.tw10194128795564708546:True:=⟨⟩
theorem fin.tw3004984022683251337:True:=⟨⟩
theorem fin.tw544173102793226557:True:=⟨⟩
theorem fin.tw14159801056994702679:True:=⟨⟩
theorem fin.tw8643116662766533202:True:=⟨⟩
theorem fin.tw14637358334870819178:True:=⟨⟩
theorem fin.tw1580780407708033493:True:=⟨⟩
theorem fin.tw13469397999491448738:True:=⟨⟩
theorem fin.tw2086631506510373192:True:=⟨⟩
theorem fin.tw17067295170570645592:True:=⟨⟩
theorem fin.tw17362494058136835672:True:=⟨⟩
theorem fin.tw17041991840579044601:True:=⟨⟩
theorem fin.tw7845872953664198349:True:=⟨⟩
theorem fin.tw16958243865122950064:True:=⟨⟩
theorem fin.tw7470013935711676318:True:=⟨⟩
theorem fin.tw12962497063298326498:True:=⟨⟩
theorem fin.tw7334248845499685764:True:=⟨⟩
theorem fin.tw4768634762848416435:True:=⟨⟩
theorem fin.tw7779959011674639804:True:=⟨⟩
theorem fin.tw6474043946942992101:True:=⟨⟩
theorem fin.tw15913912297419572864:True:=⟨⟩
theorem fin.tw6381419901266130222:True:=⟨⟩
theorem fin.tw7692301277026442203:True:=⟨⟩
theorem fin.tw862447977868951606:True:=⟨⟩
theorem fin.tw9387745189664136937:True:=⟨⟩
theorem fin.tw3975253019698251321:True:=⟨⟩
theorem fin.tw12711679700452659978:True:=⟨⟩
theorem fin.tw7716820226725407877:True:=⟨⟩
theorem fin.tw12847644182280273618:True:=⟨⟩
theorem fin.tw8126443298418566877:True:=⟨⟩
theorem fin.tw1252854909445205041:True:=⟨⟩
theorem fin.tw16307707646766795581:True:=⟨⟩
theorem fin.tw13523910257889291827:True:=⟨⟩
theorem fin.tw16103849850496634939:True:=⟨⟩
theorem fin.tw4704930585520482657:True:=⟨⟩
theorem fin.tw3293696948919318046:True:=⟨⟩
theorem fin.tw8269367382603917829:True:=⟨⟩
theorem fin.tw12180539936304867106:True:=⟨⟩
theorem fin.tw3314143786362844604:True:=⟨⟩
theorem fin.tw18373065035072037172:True:=⟨⟩
theorem fin.tw17267618260052754613:True:=⟨⟩
theorem fin.tw15989303212955285315:True:=⟨⟩
theorem fin.tw9997704412844104603:True:=⟨⟩
theorem fin.tw480829909506669009:True:=⟨⟩
theorem fin.tw17869975865946814897:True:=⟨⟩
theorem fin.tw876206183137641144:True:=⟨⟩
theorem fin.tw17512474026176034454:True:=⟨⟩
theorem fin.tw12977279227502587607:True:=⟨⟩
theorem fin.tw6567050819087999508:True:=⟨⟩
theorem fin.tw12149302876761508202:True:=⟨⟩
theorem fin.tw1422313219903470601:True:=⟨⟩
theorem fin.tw428092273266315144:True:=⟨⟩
theorem fin.tw17570509445847580414:True:=⟨⟩
theorem fin.tw4040260094072895976:True:=⟨⟩
theorem fin.tw9722632081671974098:True:=⟨⟩
theorem fin.tw12347537446847802165:True:=⟨⟩
theorem fin.tw828056024939588000:True:=⟨⟩
theorem fin.tw12409915417874342407:True:=⟨⟩
theorem fin.tw4180101509539245183:True:=⟨⟩
theorem fin.tw4424551920762525699:True:=⟨⟩
theorem fin.tw16488607150827929282:True:=⟨⟩
theorem fin.tw15815952407149668801:True:=⟨⟩
theorem fin.tw9913140749668108558:True:=⟨⟩
theorem fin.tw14333544728242365436:True:=⟨⟩
theorem fin.tw14814673180317915700:True:=⟨⟩
theorem fin.tw6449190631224713292:True:=⟨⟩
theorem fin.tw17149882997012438147:True:=⟨⟩
theorem fin.tw2512408688544751470:True:=⟨⟩
theorem fin.tw14239432107786713131:True:=⟨⟩
theorem fin.tw895571856199123645:True:=⟨⟩
theorem fin.tw8947099994592609211:True:=⟨⟩
theorem fin.tw7522001649326652513:True:=⟨⟩
theorem fin.tw13381708803477554279:True:=⟨⟩
theorem fin.tw12740692763255036000:True:=⟨⟩
theorem fin.tw8004206274103572539:True:=⟨⟩
theorem fin.tw5011121235533021005:True:=⟨⟩
theorem fin.tw4723787954990577340:True:=⟨⟩
theorem fin.tw803859442106103436:True:=⟨⟩
theorem fin.tw4928979718650693569:True:=⟨⟩
theorem fin.tw6766580051018981234:True:=⟨⟩
theorem fin.tw17896612028031085017:True:=⟨⟩
theorem fin.tw7193555501269276637:True:=⟨⟩
theorem fin.tw6289197191216398940:True:=⟨⟩
theorem fin.tw13814004702073501669:True:=⟨⟩
theorem fin.tw2305881189932309285:True:=⟨⟩
theorem fin.tw13021059552284102479:True:=⟨⟩
theorem fin.tw14279960228734115912:True:=⟨⟩
theorem fin.tw5071919506433949198:True:=⟨⟩
theorem fin.tw16530489862217454893:True:=⟨⟩
theorem fin.tw1544503264643628384:True:=⟨⟩
theorem fin.tw4170516301191304579:True:=⟨⟩
theorem fin.tw10196768644732416780:True:=⟨⟩
theorem fin.tw251868834278440796:True:=⟨⟩
theorem fin.tw16906536467411238026:True:=⟨⟩
theorem fin.tw15216479089859931547:True:=⟨⟩
theorem fin.tw17260493314774615805:True:=⟨⟩
theorem fin.tw9597861255099599992:True:=⟨⟩
theorem fin.tw848606289541702500:True:=⟨⟩
theorem fin.tw4312942655851389009:True:=⟨⟩
theorem fin.tw17425937995043322649:True:=⟨⟩
theorem fin.tw3199103547748192838:True:=⟨⟩
theorem fin.tw17717364068325071970:True:=⟨⟩
theorem fin.tw9659392335347125073:True:=⟨⟩
theorem fin.tw10852849658779182186:True:=⟨⟩
theorem fin.tw9001875181463519149:True:=⟨⟩
theorem fin.tw4588413851689716618:True:=⟨⟩
theorem fin.tw4878226113927451544:True:=⟨⟩
theorem fin.tw4879674094562380441:True:=⟨⟩
theorem fin.tw2304379251839397102:True:=⟨⟩
theorem fin.tw8261031787919469916:True:=⟨⟩
theorem fin.tw3906754673857718949:True:=⟨⟩
theorem fin.tw757079261281740938:True:=⟨⟩
theorem fin.tw1635022588487117616:True:=⟨⟩
theorem fin.tw9747544060827109212:True:=⟨⟩
theorem fin.tw11897717083992391400:True:=⟨⟩
theorem fin.tw4218790737952374519:True:=⟨⟩
theorem fin.tw16502652511500755:True:=⟨⟩
theorem fin.tw11192643925408225281:True:=⟨⟩
theorem fin.tw10234915967203826555:True:=⟨⟩
theorem fin.tw10782327089294195420:True:=⟨⟩
theorem fin.tw15399907426655090358:True:=⟨⟩
theorem fin.tw7613857476909055813:True:=⟨⟩
theorem fin.tw4598667867955821814:True:=⟨⟩
theorem fin.tw9221430085559818832:True:=⟨⟩
theorem fin.tw8025084765662995669:True:=⟨⟩
theorem fin.tw10829458402184033698:True:=⟨⟩
theorem fin.tw15741700470354863883:True:=⟨⟩
theorem fin.tw15688172546075569117:True:=⟨⟩
theorem fin.tw799341379326975648:True:=⟨⟩
theorem fin.tw12105171945263650130:True:=⟨⟩
theorem fin.tw11277574374343807151:True:=⟨⟩
theorem fin.tw5962627729488381771:True:=⟨⟩
theorem fin.tw16510490156224867327:True:=⟨⟩
theorem fin.tw2789213428527533208:True:=⟨⟩
theorem fin.tw14855157385224911753:True:=⟨⟩
theorem fin.tw3794220679723124481:True:=⟨⟩
theorem fin.tw4100293265295638779:True:=⟨⟩
theorem fin.tw13337293482115323266:True:=⟨⟩
theorem fin.tw3837020019201816242:True:=⟨⟩
theorem fin.tw500868675978126160:True:=⟨⟩
theorem fin.tw12780881840741157306:True:=⟨⟩
theorem fin.tw4640724917100965312:True:=⟨⟩
theorem fin.tw2537931557510868981:True:=⟨⟩
theorem fin.tw12696600883282566439:True:=⟨⟩
theorem fin.tw9363291351745731410:True:=⟨⟩
theorem fin.tw14139026862911339306:True:=⟨⟩
theorem fin.tw12557769604369416430:True:=⟨⟩
theorem fin.tw17801579834951734752:True:=⟨⟩
theorem fin.tw9544026089342320630:True:=⟨⟩
theorem fin.tw7844069586390513008:True:=⟨⟩
theorem fin.tw16275787546110486726:True:=⟨⟩
theorem fin.tw5320702786494000081:True:=⟨⟩
theorem fin.tw8383268338085895543:True:=⟨⟩
theorem fin.tw1080700006314346644:True:=⟨⟩
theorem fin.tw14109310954907245088:True:=⟨⟩
theorem fin.tw11953781441336167498:True:=⟨⟩
theorem fin.tw1613116972386908190:True:=⟨⟩
theorem fin.tw16256441300576474876:True:=⟨⟩
theorem fin.tw12869217540446652890:True:=⟨⟩
theorem fin.tw12751662967071866640:True:=⟨⟩
theorem fin.tw14347400895652799225:True:=⟨⟩
theorem fin.tw17123178472405020103:True:=⟨⟩
theorem fin.tw17416127249078093707:True:=⟨⟩
theorem fin.tw11079828417688620724:True:=⟨⟩
theorem fin.tw11293339424137598113:True:=⟨⟩
theorem fin.tw9746901515087519452:True:=⟨⟩
theorem fin.tw5901363791540438844:True:=⟨⟩
theorem fin.tw12649782002744950493:True:=⟨⟩
theorem fin.tw2910385600587045654:True:=⟨⟩
theorem fin.tw11336253725339858928:True:=⟨⟩
theorem fin.tw6127190174262240918:True:=⟨⟩
theorem fin.tw10708223146118651492:True:=⟨⟩
theorem fin.tw7336344344812659824:True:=⟨⟩
theorem fin.tw7130589087949165531:True:=⟨⟩
theorem fin.tw17743408960866722510:True:=⟨⟩
theorem fin.tw11414119711712004833:True:=⟨⟩
theorem fin.tw7439575562449295702:True:=⟨⟩
theorem fin.tw4326780796455107134:True:=⟨⟩
theorem fin.tw15566928917628492161:True:=⟨⟩
theorem fin.tw14560573928864763818:True:=⟨⟩
theorem fin.tw8289400949097046189:True:=⟨⟩
theorem fin.tw6144012678527597917:True:=⟨⟩
theorem fin.tw14574801432027512755:True:=⟨⟩
theorem fin.tw12996517811204074000:True:=⟨⟩
theorem fin.tw6380807493870290408:True:=⟨⟩
theorem fin.tw9038226972742754082:True:=⟨⟩
theorem fin.tw12612204703400128841:True:=⟨⟩
theorem fin.tw7055459427971326715:True:=⟨⟩
theorem fin.tw7028063314416541132:True:=⟨⟩
theorem fin.tw520194297998822909:True:=⟨⟩
theorem fin.tw10147658903529517814:True:=⟨⟩
theorem fin.tw5514125408013525434:True:=⟨⟩
theorem fin.tw17311274769643918242:True:=⟨⟩
theorem fin.tw11906472874536768445:True:=⟨⟩
theorem fin.tw7348594602126897846:True:=⟨⟩
theorem fin.tw17220895691602665673:True:=⟨⟩
theorem fin.tw14578271805448956485:True:=⟨⟩
theorem fin.tw1390109508276135513:True:=⟨⟩
theorem fin.tw15530151957754944063:True:=⟨⟩
theorem fin.tw12239064139714945176:True:=⟨⟩
theorem fin.tw4171678462856256454:True:=⟨⟩
theorem fin.tw1202912048536075021:True:=⟨⟩
theorem fin.tw8166985623705000286:True:=⟨⟩
theorem fin.tw3105451386036433885:True:=⟨⟩
theorem fin.tw2277568627679802767:True:=⟨⟩
theorem fin.tw18105942590061964161:True:=⟨⟩
theorem fin.tw4754365596532378047:True:=⟨⟩
theorem fin.tw10741601283216007058:True:=⟨⟩
theorem fin.tw7547296005191728479:True:=⟨⟩
theorem fin.tw15309079848183770524:True:=⟨⟩
theorem fin.tw2377308710366028375:True:=⟨⟩
theorem fin.tw8559517257967667466:True:=⟨⟩
theorem fin.tw2051409578822353534:True:=⟨⟩
theorem fin.tw744865244796547220:True:=⟨⟩
theorem fin.tw4950403968356008110:True:=⟨⟩
theorem fin.tw7613945582906998725:True:=⟨⟩
theorem fin.tw6718411051458867188:True:=⟨⟩
theorem fin.tw783483362715066742:True:=⟨⟩
theorem fin.tw10895054467252067526:True:=⟨⟩
theorem fin.tw17821466097196317003:True:=⟨⟩
theorem fin.tw8408514402456403777:True:=⟨⟩
theorem fin.tw15564276425815640635:True:=⟨⟩
theorem fin.tw10567028658651823492:True:=⟨⟩
theorem fin.tw2367325634123391141:True:=⟨⟩
theorem fin.tw1921391257341544841:True:=⟨⟩
theorem fin.tw5796354222422608987:True:=⟨⟩
theorem fin.tw10580198807604790814:True:=⟨⟩
theorem fin.tw2067723777617599883:True:=⟨⟩
theorem fin.tw7803649310394182010:True:=⟨⟩
theorem fin.tw8288733244629462318:True:=⟨⟩
theorem fin.tw17570709534508481193:True:=⟨⟩
theorem fin.tw10511823565363050587:True:=⟨⟩
theorem fin.tw5776136370200156792:True:=⟨⟩
theorem fin.tw17197158672614542318:True:=⟨⟩
theorem fin.tw3125960719983571848:True:=⟨⟩
theorem fin.tw16503470079419688546:True:=⟨⟩
theorem fin.tw14134379338385194387:True:=⟨⟩
theorem fin.tw7930893340574950883:True:=⟨⟩
theorem fin.tw9839346839192117915:True:=⟨⟩
theorem fin.tw12868640280835112553:True:=⟨⟩
theorem fin.tw2565351972500760935:True:=⟨⟩
theorem fin.tw12718612220689870738:True:=⟨⟩
theorem fin.tw9962418760945406050:True:=⟨⟩
theorem fin.tw18255404467826089762:True:=⟨⟩
theorem fin.tw17495881415371897999:True:=⟨⟩
theorem fin.tw3456623496861543869:True:=⟨⟩
theorem fin.tw3762306804915933987:True:=⟨⟩
theorem fin.tw8999559765510592377:True:=⟨⟩
theorem fin.tw4443050520305737185:True:=⟨⟩
theorem fin.tw15225332579556243176:True:=⟨⟩
theorem fin.tw6388184931127306564:True:=⟨⟩
theorem fin.tw888132650186811988:True:=⟨⟩
theorem fin.tw3029852977388229646:True:=⟨⟩
theorem fin.tw7661832156752021035:True:=⟨⟩
theorem fin.tw8331973007464152698:True:=⟨⟩
theorem fin.tw8614737586434602478:True:=⟨⟩
theorem fin.tw12356021495744459628:True:=⟨⟩
theorem fin.tw12833947400113492166:True:=⟨⟩
theorem fin.tw15094949803261831281:True:=⟨⟩
theorem fin.tw9260378047223084069:True:=⟨⟩
theorem fin.tw2775396313129547428:True:=⟨⟩
theorem fin.tw10070804522480449196:True:=⟨⟩
theorem fin.tw1105837973531982728:True:=⟨⟩
theorem fin.tw10699407837109476802:True:=⟨⟩
theorem fin.tw4613182775407389354:True:=⟨⟩
theorem fin.tw8896352889252549814:True:=⟨⟩
theorem fin.tw6385529401280152062:True:=⟨⟩
theorem fin.tw17637551073024348614:True:=⟨⟩
theorem fin.tw9610726530385051774:True:=⟨⟩
theorem fin.tw1450881378762983150:True:=⟨⟩
theorem fin.tw9059937348426287209:True:=⟨⟩
theorem fin.tw12221555665107904926:True:=⟨⟩
end Mine
namespace Mine
open PySem.W PySem PySem.Calls PyProof.Rows PyProof.V PySem.Spec
set_option Elab.async true in
theorem fin:PySem.Challenge.rw_ok0063_01.Holds:=by
  w_on
  o_law
  k_head
  (case hw=>w_witness2)
  w_strict (
    k_go0
    rename_i hI hr hc1 hc2 hD h₁ tk₁ w7 w6 w5 w4 w3 w2 w1 w0 q7 q6 q5 q4 q3 q2 q1 q0 X0 X' T' K' F' cH1 N' l0
    clear X0 hD
    refine law_all (R:=fun r s'=>GoodW _ _ _ _ _ r s'∧GrownAll _ s'.heap) (sc:=_) (vs:=_) rfl ?hd ?hu F' ?hm X' T' K' lifted hI ?hz cH1 codeHd (fun b hb=>nomatch hb) l0 N' ?c1 ?c2 ?c3 ?c4 ?c5 ?c6 ?c7 ?c8 ?ret
    (case hd=>decide)
    (case hu=>decide)
    (case hm=>rfl)
    (case hz=>omega)
    (case c1=>exact q0)
    (case c2=>exact q1)
    (case c3=>exact q2)
    (case c4=>exact q3)
    (case c5=>exact q4)
    (case c6=>exact q5)
    (case c7=>exact q6)
    (case c8=>exact q7)
    (case ret=>exact fun h₀' h' tk' m' news' ps1 ps2 G F N m1 m2=>⟨good_end (fun b o e=>F.keep b o (G.2.1.stays b o e)) rfl ‹_›,GrownAt.of N m1,GrownAt.of N m2,trivial⟩))
end Mine
theorem PySem.Challenge.cw_ok0063_01_holds : PySem.Challenge.rw_ok0063_01.Holds :=
  Mine.fin
