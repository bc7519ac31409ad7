import PyProof.Rows.All
import Wide.All
import OpenK.AllK
import Wide.FinOn
import PySem.Challenge.RW_og0262_01
set_option Elab.async false
set_option linter.all false
set_option maxRecDepth 100000
set_option genInjectivity false
set_option genSizeOfSpec false
noncomputable section
section
open PySem
namespace Mine
theorem noneE {α:Type} {C:Prop} {d:α} (e:(none:Option α)=some d):C:=nomatch e
theorem noneE' {α:Type} {C:Prop} {d:α} (e:some d=(none:Option α)):C:=nomatch e
theorem tfE {C:Prop} (e:true=false):C:=nomatch e
theorem ftE {C:Prop} (e:false=true):C:=nomatch e
theorem someE {α:Type} {a:α} {motive:(d:α)→some a=some d→Prop} (mk:motive a rfl) {d:α} (h:some a=some d):motive d h:=match d,h with | _,rfl=>mk
theorem pairE {α β:Type} {a:α} {b:β} {motive:(c:α)→(d:β)→some (a,b)=some (c,d)→Prop} (mk:motive a b rfl) {c:α} {d:β} (h:some (a,b)=some (c,d)):motive c d h:=match c,d,h with | _,_,rfl=>mk
theorem eqE {α:Type} {a:α} {motive:(d:α)→a=d→Prop} (mk:motive a rfl) {d:α} (h:a=d):motive d h:=match d,h with | _,rfl=>mk
theorem eqE' {α:Type} {a:α} {motive:(d:α)→d=a→Prop} (mk:motive a rfl) {d:α} (h:d=a):motive d h:=match d,h with | _,rfl=>mk
theorem ite_some {α:Type} {c:Prop} [Decidable c] {x d:α} (e:(if c then some x else none)=some d):c∧x=d:=
  if h:c then ⟨h,Option.some.inj ((if_pos h).symm.trans e)⟩ else noneE ((if_neg h).symm.trans e)
theorem ite_opt {α:Type} {c:Prop} [Decidable c] {x:Option α} {d:α} (e:(if c then x else none)=some d):c∧x=some d:=
  if h:c then ⟨h,(if_pos h).symm.trans e⟩ else noneE ((if_neg h).symm.trans e)
theorem x02 {P1 P2:Prop} {C:Prop} (h:P1∧P2) (k:P1→P2→C):C:=k h.1 h.2
theorem x03 {P1 P2 P3:Prop} {C:Prop} (h:P1∧P2∧P3) (k:P1→P2→P3→C):C:=k h.1 h.2.1 h.2.2
theorem x04 {P1 P2 P3 P4:Prop} {C:Prop} (h:P1∧P2∧P3∧P4) (k:P1→P2→P3→P4→C):C:=k h.1 h.2.1 h.2.2.1 h.2.2.2
theorem x05 {P1 P2 P3 P4 P5:Prop} {C:Prop} (h:P1∧P2∧P3∧P4∧P5) (k:P1→P2→P3→P4→P5→C):C:=k h.1 h.2.1 h.2.2.1 h.2.2.2.1 h.2.2.2.2
theorem x11 {α:Sort _} {P1:α→Prop} {C:Prop} (h:∃ a,P1 a) (k:∀ a,P1 a→C):C:=h.elim fun a h=>k a h
theorem x12 {α:Sort _} {P1 P2:α→Prop} {C:Prop} (h:∃ a,P1 a∧P2 a) (k:∀ a,P1 a→P2 a→C):C:=h.elim fun a h=>k a h.1 h.2
theorem x13 {α:Sort _} {P1 P2 P3:α→Prop} {C:Prop} (h:∃ a,P1 a∧P2 a∧P3 a) (k:∀ a,P1 a→P2 a→P3 a→C):C:=h.elim fun a h=>k a h.1 h.2.1 h.2.2
theorem x21 {α:Sort _} {β:Sort _} {P1:α→β→Prop} {C:Prop} (h:∃ a b,P1 a b) (k:∀ a b,P1 a b→C):C:=h.elim fun a h=>h.elim fun b h=>k a b h
theorem x22 {α:Sort _} {β:Sort _} {P1 P2:α→β→Prop} {C:Prop} (h:∃ a b,P1 a b∧P2 a b) (k:∀ a b,P1 a b→P2 a b→C):C:=h.elim fun a h=>h.elim fun b h=>k a b h.1 h.2
theorem x23 {α:Sort _} {β:Sort _} {P1 P2 P3:α→β→Prop} {C:Prop} (h:∃ a b,P1 a b∧P2 a b∧P3 a b) (k:∀ a b,P1 a b→P2 a b→P3 a b→C):C:=h.elim fun a h=>h.elim fun b h=>k a b h.1 h.2.1 h.2.2
theorem x24 {α:Sort _} {β:Sort _} {P1 P2 P3 P4:α→β→Prop} {C:Prop} (h:∃ a b,P1 a b∧P2 a b∧P3 a b∧P4 a b) (k:∀ a b,P1 a b→P2 a b→P3 a b→P4 a b→C):C:=h.elim fun a h=>h.elim fun b h=>k a b h.1 h.2.1 h.2.2.1 h.2.2.2
theorem x25 {α:Sort _} {β:Sort _} {P1 P2 P3 P4 P5:α→β→Prop} {C:Prop} (h:∃ a b,P1 a b∧P2 a b∧P3 a b∧P4 a b∧P5 a b) (k:∀ a b,P1 a b→P2 a b→P3 a b→P4 a b→P5 a b→C):C:=h.elim fun a h=>h.elim fun b h=>k a b h.1 h.2.1 h.2.2.1 h.2.2.2.1 h.2.2.2.2
theorem x31 {α:Sort _} {β:Sort _} {γ:Sort _} {P1:α→β→γ→Prop} {C:Prop} (h:∃ a b c,P1 a b c) (k:∀ a b c,P1 a b c→C):C:=h.elim fun a h=>h.elim fun b h=>h.elim fun c h=>k a b c h
theorem x32 {α:Sort _} {β:Sort _} {γ:Sort _} {P1 P2:α→β→γ→Prop} {C:Prop} (h:∃ a b c,P1 a b c∧P2 a b c) (k:∀ a b c,P1 a b c→P2 a b c→C):C:=h.elim fun a h=>h.elim fun b h=>h.elim fun c h=>k a b c h.1 h.2
theorem x33 {α:Sort _} {β:Sort _} {γ:Sort _} {P1 P2 P3:α→β→γ→Prop} {C:Prop} (h:∃ a b c,P1 a b c∧P2 a b c∧P3 a b c) (k:∀ a b c,P1 a b c→P2 a b c→P3 a b c→C):C:=h.elim fun a h=>h.elim fun b h=>h.elim fun c h=>k a b c h.1 h.2.1 h.2.2
theorem x34 {α:Sort _} {β:Sort _} {γ:Sort _} {P1 P2 P3 P4:α→β→γ→Prop} {C:Prop} (h:∃ a b c,P1 a b c∧P2 a b c∧P3 a b c∧P4 a b c) (k:∀ a b c,P1 a b c→P2 a b c→P3 a b c→P4 a b c→C):C:=h.elim fun a h=>h.elim fun b h=>h.elim fun c h=>k a b c h.1 h.2.1 h.2.2.1 h.2.2.2
theorem x35 {α:Sort _} {β:Sort _} {γ:Sort _} {P1 P2 P3 P4 P5:α→β→γ→Prop} {C:Prop} (h:∃ a b c,P1 a b c∧P2 a b c∧P3 a b c∧P4 a b c∧P5 a b c) (k:∀ a b c,P1 a b c→P2 a b c→P3 a b c→P4 a b c→P5 a b c→C):C:=h.elim fun a h=>h.elim fun b h=>h.elim fun c h=>k a b c h.1 h.2.1 h.2.2.1 h.2.2.2.1 h.2.2.2.2
theorem x41 {α:Sort _} {β:Sort _} {γ:Sort _} {δ:Sort _} {P1:α→β→γ→δ→Prop} {C:Prop} (h:∃ a b c d,P1 a b c d) (k:∀ a b c d,P1 a b c d→C):C:=h.elim fun a h=>h.elim fun b h=>h.elim fun c h=>h.elim fun d h=>k a b c d h
end Mine
end
section
open PySem
namespace Mine
inductive V where
  | none
  | bool (b:Bool)
  | int (i:Int)
  | bytes (b:List UInt8)
  | tup (l:List V)
  | lst (l:List V)
  | dct (ks:List Int) (vs:List V)
theorem V.cs {motive:V→Prop} (none:motive .none) (bool:∀ b,motive (.bool b)) (int:∀ i,motive (.int i)) (bytes:∀ b,motive (.bytes b)) (tup:∀ l,motive (.tup l)) (lst:∀ l,motive (.lst l)) (dct:∀ ks vs,motive (.dct ks vs)) (x:V):motive x:=
  V.casesOn (motive_1:=motive) x none bool int bytes tup lst dct
inductive Slot where
  | unset
  | val (d:V)
  | own (l:List V)
noncomputable abbrev St:=List Slot
inductive Fl where
  | next
  | ret (d:V)
noncomputable abbrev EF:=St→Option (V×St)
noncomputable abbrev TF:=St→Option (Bool×St)
noncomputable abbrev LF:=St→Option (List V×St)
noncomputable abbrev SF:=St→Option (Fl×St)
noncomputable def lim:Nat:=1000000
noncomputable def intsOf:List V→Option (List Int)
  | []=>some []
  | .int i::r=>(intsOf r).map (i:: ·)
  | _=>none
noncomputable def bytesOf:List V→Option (List (List UInt8))
  | []=>some []
  | .bytes b::r=>(bytesOf r).map (b:: ·)
  | _=>none
noncomputable def small (a:Int):Bool:=decide (a.natAbs<2 ^ 62)
noncomputable def addV (x y:V):Option V:=match x with
  | .int a=>(match y with | .int b=>some (.int (a+b)) | _=>none)
  | .bytes a=>(match y with | .bytes b=>if a.length+b.length≤lim then some (.bytes (a++b)) else none | _=>none)
  | .tup a=>(match y with | .tup b=>if a.length+b.length≤lim then some (.tup (a++b)) else none | _=>none)
  | _=>none
noncomputable def i2V (f:Int→Int→Option V) (x y:V):Option V:=match x with
  | .int a=>(match y with | .int b=>f a b | _=>none)
  | _=>none
noncomputable def binV:Operator→V→V→Option V
  | .Add,x,y=>addV x y
  | .Sub,x,y=>i2V (fun a b=>some (.int (a - b))) x y
  | .Mult,x,y=>i2V (fun a b=>if small a && small b then some (.int (a*b)) else none) x y
  | .FloorDiv,x,y=>i2V (fun a b=>if b≠0∧b.natAbs<1000000000 then some (.int (a.fdiv b)) else none) x y
  | .Mod,x,y=>i2V (fun a b=>if b≠0 then some (.int (a.fmod b)) else none) x y
  | .BitAnd,x,y=>i2V (fun a b=>some (.int (Builtin.bitAnd a b))) x y
  | .BitOr,x,y=>i2V (fun a b=>some (.int (Builtin.bitOr a b))) x y
  | .LShift,x,y=>i2V (fun a b=>if small a=true∧0≤b∧b≤1000 then some (.int (a*2 ^ b.toNat)) else none) x y
  | .RShift,x,y=>i2V (fun a b=>if 0≤b then some (.int (a.fdiv (2 ^ b.toNat))) else none) x y
  | .Pow,x,y=>i2V (fun a b=>if small a=true∧0≤b∧b≤1000 then some (.int (a ^ b.toNat)) else none) x y
  | .MatMult,_,_=>none
  | .Div,_,_=>none
  | .BitXor,_,_=>none
noncomputable def truV:V→Option Bool
  | .bool b=>some b
  | .int a=>some (a != 0)
  | _=>none
noncomputable def unV (op:UnaryOp) (x:V):Option V:=match op with
  | .USub=>(match x with | .int a=>some (.int (-a)) | _=>none)
  | .Invert=>(match x with | .int a=>some (.int (-a - 1)) | _=>none)
  | .Not=>(truV x).map fun b=> .bool (!b)
  | .UAdd=>none
noncomputable def eqV (x y:V):Option Bool:=match x with
  | .int a=>(match y with | .int b=>some (a==b) | .none=>some false | _=>none)
  | .none=>(match y with | .none=>some true | .int _=>some false | _=>none)
  | .bytes a=>(match y with | .bytes b=>some (a==b) | _=>none)
  | .tup a=>(match y with
    | .tup b=>(match intsOf a with
      | some x=>(match intsOf b with
        | some y=>if a.length≤lim∧b.length≤lim then some (x==y) else none
        | none=>none)
      | none=>none)
    | _=>none)
  | _=>none
noncomputable def inV (x y:V):Option Bool:=match x with
  | .int k=>(match y with | .dct ks _=>some (ks.contains k) | .tup l=>(intsOf l).map fun x=>x.contains k | _=>none)
  | .none=>(match y with | .dct _ _=>some false | .tup l=>(intsOf l).map fun _=>false | _=>none)
  | _=>none
noncomputable def i2B (f:Int→Int→Bool) (x y:V):Option Bool:=match x with
  | .int a=>(match y with | .int b=>some (f a b) | _=>none)
  | _=>none
noncomputable def isV (t:Bool) (a:V):V→Option Bool
  | .none=>some (match a with | .none=>t | _=> !t)
  | _=>none
noncomputable def cmpV:CmpOp→V→V→Option Bool
  | .Eq,a,b=>eqV a b
  | .NotEq,a,b=>(eqV a b).map (!·)
  | .Lt,x,y=>i2B (fun a b=>decide (a<b)) x y
  | .LtE,x,y=>i2B (fun a b=>decide (a≤b)) x y
  | .Gt,x,y=>i2B (fun a b=>decide (a>b)) x y
  | .GtE,x,y=>i2B (fun a b=>decide (a≥b)) x y
  | .Is,x,y=>isV true x y
  | .IsNot,x,y=>isV false x y
  | .In,a,b=>inV a b
  | .NotIn,a,b=>(inV a b).map (!·)
noncomputable def lookI (k:Int):List Int→List V→Option V
  | k'::ks,v::vs=>if k==k' then some v else lookI k ks vs
  | _,_=>none
theorem lookI_c (k k':Int) (ks:List Int) (v:V) (vs:List V):lookI k (k'::ks) (v::vs)=if k==k' then some v else lookI k ks vs:=rfl
theorem lookI_n (k:Int) (vs:List V):lookI k [] vs=none:=rfl
noncomputable def idxV (x y:V):Option V:=match y with
  | .int k=>(match x with
    | .tup l=>if 0≤k∧l.length≤lim then l[k.toNat]? else none
    | .lst l=>if 0≤k∧l.length≤lim then l[k.toNat]? else none
    | .dct ks vs=>lookI k ks vs
    | _=>none)
  | _=>none
noncomputable def cut {α:Type} (l:List α) (lo hi:Option Int):List α:=
  (l.drop (lo.elim 0 (clipAt l.length))).take (hi.elim l.length (clipAt l.length) - lo.elim 0 (clipAt l.length))
noncomputable def smallO:Option Int→Bool
  | none=>true
  | some i=>small i
noncomputable def slcV (d:V) (lo hi:Option Int):Option V:=
  if smallO lo && smallO hi then
  match d with
  | .tup l=>if l.length≤lim then some (.tup (cut l lo hi)) else none
  | .bytes b=>if b.length≤lim then some (.bytes (cut b lo hi)) else none
  | _=>none
  else none
noncomputable def lenV:V→Option V
  | .tup l=>if l.length≤lim then some (.int l.length) else none
  | .lst l=>if l.length≤lim then some (.int l.length) else none
  | .bytes b=>if b.length≤lim then some (.int b.length) else none
  | _=>none
noncomputable def minV:V→V→Option V
  | .int a,.int b=>some (.int (if b<a then b else a))
  | _,_=>none
noncomputable def maxL:List Int→Option Int
  | []=>none
  | a::r=>some (r.foldl (fun m x=>if m<x then x else m) a)
noncomputable def maxV:V→Option V
  | .lst l=>if l.length≤lim then ((intsOf l).bind maxL).map .int else none
  | _=>none
noncomputable def bytesV:V→Option V
  | .lst l=>if l.length≤lim then (match intsOf l with
      | some x=>if x.all (fun n=>decide (0≤n) && decide (n<256)) then some (.bytes (x.map fun n=>n.toNat.toUInt8)) else none
      | none=>none) else none
  | _=>none
noncomputable def intV:V→Option V
  | .int a=>some (.int a)
  | _=>none
noncomputable def joinB (s:List UInt8):List (List UInt8)→List UInt8
  | []=>[]
  | [b]=>b
  | b::r=>b++s++joinB s r
noncomputable def joinV:V→V→Option V
  | .bytes s,.lst l=>if l.length≤lim then (match bytesOf l with
      | some x=>if (joinB s x).length≤lim then some (.bytes (joinB s x)) else none
      | none=>none) else none
  | _,_=>none
noncomputable def splitB (c:UInt8):List UInt8→List (List UInt8)
  | []=>[[]]
  | x::r=>if x==c then []::splitB c r else match splitB c r with
    | []=>[[x]]
    | p::ps=>(x::p)::ps
noncomputable def splitV:V→V→Option (List V)
  | .bytes b,.bytes [c]=>if b.length≤lim then some ((splitB c b).map .bytes) else none
  | _,_=>none
noncomputable def countV:V→V→Option V
  | .bytes b,.bytes [c]=>if b.length≤lim then some (.int (b.filter (· ==c)).length) else none
  | _,_=>none
noncomputable def getV (x y d:V):Option V:=match x with
  | .dct ks vs=>(match y with | .int k=>some ((lookI k ks vs).getD d) | .none=>some d | _=>none)
  | _=>none
noncomputable def indexL (k:Int):List Int→Option Nat
  | []=>none
  | a::r=>if a==k then some 0 else (indexL k r).map (· +1)
noncomputable def indexV:V→V→Option V
  | .tup l,.int k=>if l.length≤lim then ((intsOf l).bind (indexL k)).map fun (n:Nat)=>V.int (n:Int) else none
  | _,_=>none
noncomputable def itemsV:V→Option (List V)
  | .tup l=>if l.length≤lim then some l else none
  | .lst l=>if l.length≤lim then some l else none
  | .bytes b=>if b.length≤lim then some (b.map fun c=> .int c.toNat) else none
  | _=>none
noncomputable def eCst (d:V):EF:=fun st=>some (d,st)
noncomputable def eVar (i:Nat):EF:=fun st=>match st[i]? with
  | some (.val d)=>some (d,st)
  | some (.own l)=>some (.lst l,st.set i (.val (.lst l)))
  | _=>none
noncomputable def eBin (op:Operator) (a b:EF):EF:=fun st=>do
  let (x,st)←a st
  let (y,st)←b st
  let r←binV op x y
  some (r,st)
noncomputable def eUn (op:UnaryOp) (a:EF):EF:=fun st=>do
  let (x,st)←a st
  let r←unV op x
  some (r,st)
noncomputable def eCmp (op:CmpOp) (a b:EF):EF:=fun st=>do
  let (x,st)←a st
  let (y,st)←b st
  let r←cmpV op x y
  some (.bool r,st)
noncomputable def eAnd (a b:EF):EF:=fun st=>do
  let (x,st)←a st
  let t←truV x
  if t then b st else some (x,st)
noncomputable def eIf (t:TF) (a b:EF):EF:=fun st=>do
  let (c,st)←t st
  if c then a st else b st
noncomputable def evs:List EF→St→Option (List V×St)
  | [],st=>some ([],st)
  | a::r,st=>do
    let (x,st)←a st
    let (xs,st)←evs r st
    some (x::xs,st)
noncomputable def eCall (F:List V→Option V) (args:List EF):EF:=fun st=>do
  let (xs,st)←evs args st
  let r←F xs
  some (r,st)
noncomputable def eCallO (k:Nat) (F:List Slot→List V→Option (V×List Slot)) (args:List EF):EF:=fun st=>do
  let (xs,st)←evs args st
  let (r,fs)←F (st.drop k) xs
  some (r,st.take k++fs)
noncomputable def listS:Slot→Option (List V)
  | .own l=>some l
  | .val (.lst l)=>some l
  | _=>none
noncomputable def eLenS (i:Nat):EF:=fun st=>do
  let l←(st[i]?).bind listS
  let r←lenV (.lst l)
  some (r,st)
noncomputable def eGetS (i:Nat) (e:EF):EF:=fun st=>do
  let (k,st)←e st
  let l←(st[i]?).bind listS
  let r←idxV (.lst l) k
  some (r,st)
noncomputable def ePop (i:Nat):EF:=fun st=>match st[i]? with
  | some (.own l)=>if l.length≤lim then l.getLast?.map fun d=>(d,st.set i (.own l.dropLast)) else none
  | _=>none
noncomputable def eNeNil (i:Nat):EF:=fun st=>do
  let l←(st[i]?).bind listS
  if l.length≤lim then some (.bool (!l.isEmpty),st) else none
noncomputable def eIdx (a b:EF):EF:=fun st=>do
  let (x,st)←a st
  let (y,st)←b st
  let r←idxV x y
  some (r,st)
noncomputable def opt (a:Option EF):St→Option (Option Int×St):=fun st=>match a with
  | none=>some (none,st)
  | some f=>do
    let (x,st)←f st
    match x with
    | .int i=>some (some i,st)
    | _=>none
noncomputable def eSlc (a:EF) (lo hi:Option EF):EF:=fun st=>do
  let (x,st)←a st
  let (l,st)←opt lo st
  let (h,st)←opt hi st
  let r←slcV x l h
  some (r,st)
noncomputable def eTup (args:List EF):EF:=fun st=>do
  let (xs,st)←evs args st
  some (.tup xs,st)
noncomputable def pairsRun:List (EF×EF)→St→Option ((List Int×List V)×St)
  | [],st=>some (([],[]),st)
  | p::r,st=>do
    let (k,st)←p.1 st
    let (x,st)←p.2 st
    match k with
    | .int i=>do
      let ((ks,xs),st)←pairsRun r st
      some ((i::ks,x::xs),st)
    | _=>none
noncomputable def eDct (ps:List (EF×EF)):EF:=fun st=>do
  let ((ks,xs),st)←pairsRun ps st
  if ks.Nodup then some (.dct ks xs,st) else none
noncomputable def eF1 (f:V→Option V) (a:EF):EF:=fun st=>do
  let (x,st)←a st
  let r←f x
  some (r,st)
noncomputable def eF2 (f:V→V→Option V) (a b:EF):EF:=fun st=>do
  let (x,st)←a st
  let (y,st)←b st
  let r←f x y
  some (r,st)
noncomputable def eF3 (f:V→V→V→Option V) (a b c:EF):EF:=fun st=>do
  let (x,st)←a st
  let (y,st)←b st
  let (z,st)←c st
  let r←f x y z
  some (r,st)
noncomputable def eL (l:LF):EF:=fun st=>do
  let (xs,st)←l st
  some (.lst xs,st)
noncomputable def lDisp (args:List EF):LF:=evs args
noncomputable def lSlc (a:EF) (lo hi:Option EF):LF:=fun st=>do
  let (x,st)←a st
  let (l,st)←opt lo st
  let (h,st)←opt hi st
  match x with
  | .lst xs=>if smallO l && smallO h && decide (xs.length≤lim) then some (cut xs l h,st) else none
  | _=>none
noncomputable def lRev (a:EF):LF:=fun st=>do
  let (x,st)←a st
  match x with
  | .lst xs=>if xs.length≤lim then some (xs.reverse,st) else none
  | _=>none
noncomputable def lOf (a:EF):LF:=fun st=>do
  let (x,st)←a st
  match x with
  | .lst xs=>if xs.length≤lim then some (xs,st) else none
  | .tup xs=>if xs.length≤lim then some (xs,st) else none
  | _=>none
noncomputable def lAdd (a b:EF):LF:=fun st=>do
  let (x,st)←a st
  let (y,st)←b st
  match x,y with
  | .lst xs,.lst ys=>if xs.length+ys.length≤lim then some (xs++ys,st) else none
  | _,_=>none
noncomputable def lMul (a b:EF):LF:=fun st=>do
  let (x,st)←a st
  let (y,st)←b st
  match x,y with
  | .lst xs,.int k=>if 0≤k∧k≤lim∧0<xs.length∧xs.length*k.toNat≤lim then some ((List.replicate k.toNat xs).flatten,st) else none
  | _,_=>none
noncomputable def lF2 (f:V→V→Option (List V)) (a b:EF):LF:=fun st=>do
  let (x,st)←a st
  let (y,st)←b st
  let r←f x y
  some (r,st)
noncomputable def iSeq (a:EF):LF:=fun st=>do
  let (x,st)←a st
  let r←itemsV x
  some (r,st)
noncomputable def iRange (a:EF):LF:=fun st=>do
  let (x,st)←a st
  match x with
  | .int n=>if 0≤n∧n≤lim then some ((List.range n.toNat).map fun (k:Nat)=>V.int k,st) else none
  | _=>none
noncomputable def bindT (ts:List Nat) (d:V) (st:St):Option St:=match ts,d with
  | [i],d=>some (st.set i (.val d))
  | ts,.tup l=>if l.length=ts.length then some ((ts.zip l).foldl (fun st p=>st.set p.1 (.val p.2)) st) else none
  | _,_=>none
theorem bindT1 (i:Nat) (d:V) (st:St):bindT [i] d st=some (st.set i (.val d)):=rfl
theorem bindT2 (i j:Nat) (ts:List Nat) (l:List V) (st:St):bindT (i::j::ts) (.tup l) st=if l.length=(i::j::ts).length then some (((i::j::ts).zip l).foldl (fun st p=>st.set p.1 (.val p.2)) st) else none:=rfl
noncomputable def tests:List TF→St→Option (Bool×St)
  | [],st=>some (true,st)
  | t::r,st=>do
    let (c,st)←t st
    if c then tests r st else some (false,st)
noncomputable def compLoop (ts:List Nat) (ifs:List TF) (elt:EF):List V→St→Option (List V×St)
  | [],st=>some ([],st)
  | d::r,st=>do
    let st←bindT ts d st
    let (c,st)←tests ifs st
    if c then
      let (x,st)←elt st
      let (xs,st)←compLoop ts ifs elt r st
      some (x::xs,st)
    else compLoop ts ifs elt r st
theorem compLoop_c (ts:List Nat) (ifs:List TF) (elt:EF) (d:V) (r:List V) (st:St):compLoop ts ifs elt (d::r) st=(do
    let st←bindT ts d st
    let (c,st)←tests ifs st
    if c then
      let (x,st)←elt st
      let (xs,st)←compLoop ts ifs elt r st
      some (x::xs,st)
    else compLoop ts ifs elt r st):=rfl
noncomputable def freeS (st:St):List Nat→Option (List Slot)
  | []=>some []
  | i::r=>match st[i]? with
    | some (.val d)=>(freeS st r).map (.val d:: ·)
    | _=>none
noncomputable def lComp (k nt:Nat) (frees:List Nat) (it:LF) (ifs:List TF) (elt:EF):LF:=fun st=>do
  let (items,st)←it st
  let fr←freeS st frees
  let (xs,cst)←compLoop (List.range nt) ifs elt items (List.replicate nt .unset++fr++st.drop k)
  if xs.length≤lim then some (xs,st.take k++cst.drop (nt+frees.length)) else none
noncomputable def lCompA (it:LF) (ifs:List TF) (elt:EF):LF:=fun st=>do
  let (items,st)←it st
  let (xs,_)←compLoop [0] ifs elt items [.unset]
  if xs.length≤lim then some (xs,st) else none
noncomputable def tCmp (op:CmpOp) (a b:EF):TF:=fun st=>do
  let (x,st)←a st
  let (y,st)←b st
  let r←cmpV op x y
  some (r,st)
noncomputable def tCmp2 (op op':CmpOp) (a b c:EF):TF:=fun st=>do
  let (x,st)←a st
  let (y,st)←b st
  let r←cmpV op x y
  if r then
    let (z,st)←c st
    let r'←cmpV op' y z
    some (r',st)
  else some (false,st)
noncomputable def tNot (t:TF):TF:=fun st=>do
  let (c,st)←t st
  some (!c,st)
noncomputable def tAnd (a b:TF):TF:=fun st=>do
  let (c,st)←a st
  if c then b st else some (false,st)
noncomputable def tOr (a b:TF):TF:=fun st=>do
  let (c,st)←a st
  if c then some (true,st) else b st
noncomputable def tVal (e:EF):TF:=fun st=>do
  let (x,st)←e st
  let r←truV x
  some (r,st)
noncomputable def sAsg (i:Nat) (e:EF):SF:=fun st=>do
  let (x,st)←e st
  some (.next,st.set i (.val x))
noncomputable def sAsgL (i:Nat) (l:LF):SF:=fun st=>do
  let (xs,st)←l st
  some (.next,st.set i (.own xs))
inductive Part where
  | v (i:Nat) (e:EF)
  | l (i:Nat) (f:LF)
noncomputable def Part.run:Part→St→Option ((Nat×Slot)×St)
  | .v i e,st=>do
    let (x,st)←e st
    some ((i,.val x),st)
  | .l i f,st=>do
    let (xs,st)←f st
    some ((i,.own xs),st)
noncomputable def partsRun:List Part→St→Option (List (Nat×Slot)×St)
  | [],st=>some ([],st)
  | p::r,st=>do
    let (x,st)←p.run st
    let (xs,st)←partsRun r st
    some (x::xs,st)
noncomputable def sTup (r:Bool) (ps:List Part):SF:=fun st=>do
  let (xs,st)←partsRun ps st
  some (.next,(if r then xs.reverse else xs).foldl (fun st p=>st.set p.1 p.2) st)
noncomputable def sUnp (ts:List Nat) (e:EF):SF:=fun st=>do
  let (x,st)←e st
  let st←bindT ts x st
  some (.next,st)
noncomputable def sSetIdx (i:Nat) (k e:EF):SF:=fun st=>do
  let (x,st)←e st
  let _←(st[i]?).bind listS
  let (y,st)←k st
  match st[i]?,y with
  | some (.own l),.int j=>if 0≤j∧j.toNat<l.length∧l.length≤lim then some (.next,st.set i (.own (l.set j.toNat x))) else none
  | _,_=>none
noncomputable def sAug (i:Nat) (op:Operator) (e:EF):SF:=fun st=>do
  let (x,st)←eVar i st
  let (y,st)←e st
  match x,y with
  | .int a,.int b=>do
    let r←binV op (.int a) (.int b)
    some (.next,st.set i (.val r))
  | _,_=>none
noncomputable def sApp (i:Nat) (e:EF):SF:=fun st=>do
  let _←(st[i]?).bind listS
  let (x,st)←e st
  match st[i]? with
  | some (.own l)=>if l.length<lim then some (.next,st.set i (.own (l++[x]))) else none
  | _=>none
noncomputable def plainV:V→Bool
  | .none=>true
  | .bool _=>true
  | .int _=>true
  | .bytes _=>true
  | _=>false
noncomputable def sExpr (e:EF):SF:=fun st=>do
  let (x,st)←e st
  if plainV x then some (.next,st) else none
noncomputable def sIf (t:TF) (a b:SF):SF:=fun st=>do
  let (c,st)←t st
  if c then a st else b st
noncomputable def forLoop (ts:List Nat) (body:SF):List V→SF
  | [],st=>some (.next,st)
  | d::r,st=>do
    let st←bindT ts d st
    let (f,st)←body st
    match f with
    | .next=>forLoop ts body r st
    | .ret x=>some (.ret x,st)
theorem forLoop_n (ts:List Nat) (body:SF) (st:St):forLoop ts body [] st=some (.next,st):=rfl
theorem forLoop_c (ts:List Nat) (body:SF) (d:V) (r:List V) (st:St):forLoop ts body (d::r) st=(do
    let st←bindT ts d st
    let (f,st)←body st
    match f with
    | .next=>forLoop ts body r st
    | .ret x=>some (.ret x,st)):=rfl
noncomputable def sFor (ts:List Nat) (it:LF) (body:SF):SF:=fun st=>do
  let (items,st)←it st
  forLoop ts body items st
noncomputable def whileLoop (t:TF) (body:SF):Nat→SF
  | 0,_=>none
  | n+1,st=>do
    let (c,st)←t st
    if c then
      let (f,st)←body st
      match f with
      | .next=>whileLoop t body n st
      | .ret x=>some (.ret x,st)
    else some (.next,st)
theorem whileLoop_c (t:TF) (body:SF) (n:Nat) (st:St):whileLoop t body (n+1) st=(do
    let (c,st)←t st
    if c then
      let (f,st)←body st
      match f with
      | .next=>whileLoop t body n st
      | .ret x=>some (.ret x,st)
    else some (.next,st)):=rfl
noncomputable def sWhile (n:Nat) (t:TF) (body:SF):SF:=whileLoop t body n
noncomputable def sRet (e:EF):SF:=fun st=>do
  let (x,st)←e st
  some (.ret x,st)
noncomputable def bNil:SF:=fun st=>some (.next,st)
noncomputable def bCons (s r:SF):SF:=fun st=>do
  let (f,st)←s st
  match f with
  | .next=>r st
  | .ret x=>some (.ret x,st)
noncomputable def noOwn:List Slot→Bool
  | []=>true
  | .own _::_=>false
  | _::r=>noOwn r
noncomputable def lastUnset (st:List Slot):Bool:=match st.getLast? with
  | some .unset=>true
  | _=>false
noncomputable def bNew (n:Nat) (F:List Slot→List V→Option (V×List Slot)) (args:List EF) (r:SF):SF:=fun st=>do
  let (xs,st)←evs args st
  let (d,fs)←F (List.replicate n .unset) xs
  match d with
  | .none=>if noOwn st.dropLast && lastUnset st then r (st.dropLast++fs) else none
  | _=>none
noncomputable def bGet (F:List V→Option (List Slot)) (args:List EF) (r:SF):SF:=fun st=>do
  let (xs,st)←evs args st
  let fs←F xs
  if noOwn st.dropLast && lastUnset st then r (st.dropLast++fs) else none
noncomputable def dCons (f:SF) (F:St→Option (List Slot)):St→Option (List Slot):=fun st=>do
  let (fl,st)←f st
  match fl with
  | .next=>F st
  | .ret _=>none
noncomputable def dLast (l:LF) (e:EF):St→Option (List Slot):=fun st=>do
  let (xs,st)←l st
  let (x,_)←e st
  some [.own xs,.val x]
noncomputable def runD (nv:Nat) (b:St→Option (List Slot)) (xs:List V):Option (List Slot):=b (xs.map .val++List.replicate (nv - xs.length) .unset)
noncomputable def runV (nv:Nat) (b:SF) (xs:List V):Option V:=do
  let (f,_)←b (xs.map .val++List.replicate (nv - xs.length) .unset)
  match f with
  | .ret d=>some d
  | .next=>some .none
noncomputable def runO (nv:Nat) (b:SF) (fs:List Slot) (xs:List V):Option (V×List Slot):=do
  let (f,st)←b (xs.map .val++List.replicate (nv - xs.length) .unset++fs)
  match f with
  | .ret d=>some (d,st.drop nv)
  | .next=>some (.none,st.drop nv)
end Mine
end
section
open PySem
set_option maxRecDepth 10000
namespace Mine
noncomputable def G_BOLD:V:= .int 1
noncomputable def G_FAINT:V:= .int 2
noncomputable def G_ITALIC:V:= .int 4
noncomputable def G_BLINK:V:= .int 8
noncomputable def G_FAST:V:= .int 16
noncomputable def G_INVERSE:V:= .int 32
noncomputable def G_HIDDEN:V:= .int 64
noncomputable def G_STRUCK:V:= .int 128
noncomputable def G_OVERLINE:V:= .int 256
noncomputable def G_UNDER_SHIFT:V:= .int 9
noncomputable def G_UNDER_MASK:V:= .int 3584
noncomputable def G_NO_COLOUR:V:= .int (-1)
noncomputable def G_DIRECT:V:= .int 16777216
noncomputable def G_PLAIN:V:= .tup [(.int 0),(.int (-1)),(.int (-1)),(.int (-1)),(.int 0)]
noncomputable def G_FLAGS:V:= .int 0
noncomputable def G_FORE:V:= .int 1
noncomputable def G_BACK:V:= .int 2
noncomputable def G_UNDER:V:= .int 3
noncomputable def G_LINK:V:= .int 4
noncomputable def G_FIGURE_FIRST:V:= .int 48
noncomputable def G_FIGURE_LAST:V:= .int 57
noncomputable def G_COLON:V:= .int 58
noncomputable def G_SEMICOLON:V:= .int 59
noncomputable def G_SGR_RESET:V:= .int 0
noncomputable def G_SGR_FORE:V:= .int 38
noncomputable def G_SGR_BACK:V:= .int 48
noncomputable def G_SGR_UNDER:V:= .int 58
noncomputable def G_FIRST_BRIGHT:V:= .int 8
noncomputable def G_FIRST_CUBE:V:= .int 16
noncomputable def G_FIRST_GRAY:V:= .int 232
noncomputable def G_MOST_COLOUR:V:= .int 255
noncomputable def G_CUBE_LEVELS:V:= .tup [(.int 0),(.int 95),(.int 135),(.int 175),(.int 215),(.int 255)]
noncomputable def G_law_pieces:V:= .tup [(.bytes []),(.bytes [49]),(.bytes [50]),(.bytes [51]),(.bytes [52]),(.bytes [53]),(.bytes [54]),(.bytes [55]),(.bytes [56]),(.bytes [57]),(.bytes [50,49]),(.bytes [50,50]),(.bytes [50,51]),(.bytes [50,52]),(.bytes [50,53]),(.bytes [50,55]),(.bytes [50,56]),(.bytes [50,57]),(.bytes [48]),(.bytes [51,49]),(.bytes [51,55]),(.bytes [51,56,59,53,59,57]),(.bytes [51,57]),(.bytes [52,48]),(.bytes [52,55]),(.bytes [52,56,59,50,59,49,59,50,59,51]),(.bytes [52,57]),(.bytes [53,51]),(.bytes [53,53]),(.bytes [53,56,58,53,58,55]),(.bytes [53,57]),(.bytes [57,48]),(.bytes [57,55]),(.bytes [49,48,48]),(.bytes [49,48,55]),(.bytes [52,58,51]),(.bytes [52,58,48]),(.bytes [52,58,57]),(.bytes [52,58]),(.bytes [58,52]),(.bytes [49,58,49]),(.bytes [51,56,58,53,58,51,48,48]),(.bytes [51,56,58,53,58,48]),(.bytes [51,56,58,50,58,57,58,56,58,55]),(.bytes [52,56,58,50,58,58,57,58,56,58,55]),(.bytes [52,56,58,50,58,49,58,50]),(.bytes [53,56,59,53,59,50,53,54]),(.bytes [51,56,59,50,59,49,59,57,57,57,57,57,57,57,57,57,57,57,59,51]),(.bytes [52,56,59,55]),(.bytes [48,48,48,48,51,49]),(.bytes [54,53,53,51,54]),(.bytes [51,56,59,53,59]),(.bytes [49,48]),(.bytes [54,48])]
noncomputable def F_nearest_of_256:List V→Option V:=fun _=>none
noncomputable def F_law_deck_body:St→Option (List Slot):=(dCons (sTup true [(.v 1 (eL (lCompA (iSeq (eL (lSlc (eVar 0) none (some (eCst (.int 40)))))) [] (eBin .Mod (eF1 intV (eVar 0)) (eBin .Pow (eCst (.int 10)) (eCst (.int 9))))))),(.v 2 (eCst (.int 97)))])
  (dCons (sFor [3] (iSeq (eVar 1)) (bCons (sAsg 2 (eBin .Mod (eBin .Add (eBin .Mult (eVar 2) (eCst (.int 31))) (eVar 3)) (eCst (.int 1000003))))
  bNil))
  (dLast (lRev (eVar 1)) (eVar 2))))
noncomputable def F_law_deck:List V→Option (List Slot):=runD 4 F_law_deck_body
noncomputable def F_law_draw_body:SF:=(bCons (sIf (tVal (eNeNil 1)) (bCons (sRet (eBin .Mod (ePop 1) (eVar 0)))
  bNil) bNil)
  (bCons (sAsg 2 (eBin .Mod (eBin .Add (eBin .Mult (eVar 2) (eCst (.int 16807))) (eCst (.int 29))) (eCst (.int 2147483647))))
  (bCons (sRet (eBin .Mod (eBin .FloorDiv (eVar 2) (eCst (.int 64))) (eVar 0)))
  bNil)))
noncomputable def F_law_draw:List Slot→List V→Option (V×List Slot):=runO 1 F_law_draw_body
noncomputable def F_clear_body:SF:=(bCons (sAsgL 2 (lDisp []))
  (bCons (sAsgL 3 (lDisp []))
  (bCons (sAsg 4 (eCst .none))
  (bCons (sAsg 5 (eCst (.bool false)))
  bNil))))
noncomputable def F_clear:List Slot→List V→Option (V×List Slot):=runO 0 F_clear_body
noncomputable def F_init___body:SF:=(bCons (sAsg 2 (eVar 0))
  (bCons (sAsg 3 (eVar 1))
  (bCons (sExpr (eCallO 2 F_clear []))
  bNil)))
noncomputable def F_init:List Slot→List V→Option (V×List Slot):=runO 2 F_init___body
noncomputable def F_close_part_body:SF:=(bCons (sIf (tCmp .Lt (eLenS 3) (eVar 0)) (bCons (sApp 3 (eVar 4))
  bNil) bNil)
  (bCons (sAsg 4 (eCst .none))
  bNil))
noncomputable def F_close_part:List Slot→List V→Option (V×List Slot):=runO 0 F_close_part_body
noncomputable def F_close_parameter_body:SF:=(bCons (sIf (tCmp .Lt (eLenS 2) (eVar 0)) (bCons (sApp 2 (eVar 3))
  bNil) bNil)
  (bCons (sAsgL 3 (lDisp []))
  bNil))
noncomputable def F_close_parameter:List Slot→List V→Option (V×List Slot):=runO 0 F_close_parameter_body
noncomputable def F_put_body:SF:=(bCons (sIf (tCmp2 .LtE .LtE (eCst G_FIGURE_FIRST) (eVar 0) (eCst G_FIGURE_LAST)) (bCons (sAsg 1 (eIf (tCmp .Is (eVar 6) (eCst .none)) (eCst (.int 0)) (eVar 6)))
  (bCons (sAsg 6 (eF2 minV (eVar 3) (eBin .Sub (eBin .Add (eBin .Mult (eVar 1) (eCst (.int 10))) (eVar 0)) (eCst G_FIGURE_FIRST))))
  bNil)) (bCons (sIf (tCmp .Eq (eVar 0) (eCst G_COLON)) (bCons (sExpr (eCallO 2 F_close_part []))
  bNil) (bCons (sIf (tCmp .Eq (eVar 0) (eCst G_SEMICOLON)) (bCons (sExpr (eCallO 2 F_close_part []))
  (bCons (sExpr (eCallO 2 F_close_parameter []))
  bNil)) (bCons (sRet (eCst (.bool false)))
  bNil))
  bNil))
  bNil))
  (bCons (sAsg 7 (eCst (.bool true)))
  (bCons (sRet (eCst (.bool true)))
  bNil)))
noncomputable def F_put:List Slot→List V→Option (V×List Slot):=runO 2 F_put_body
noncomputable def F_params_body:SF:=(bCons (sIf (tNot (tVal (eVar 7))) (bCons (sRet (eL (lDisp [])))
  bNil) bNil)
  (bCons (sAsgL 0 (lOf (eVar 5)))
  (bCons (sIf (tCmp .Lt (eLenS 0) (eVar 2)) (bCons (sApp 0 (eVar 6))
  bNil) bNil)
  (bCons (sAsgL 1 (lCompA (iSeq (eVar 4)) [] (eL (lOf (eVar 0)))))
  (bCons (sIf (tCmp .Lt (eLenS 1) (eVar 2)) (bCons (sApp 1 (eVar 0))
  bNil) bNil)
  (bCons (sRet (eVar 1))
  bNil))))))
noncomputable def F_params:List Slot→List V→Option (V×List Slot):=runO 2 F_params_body
noncomputable def F_read_params_body:SF:=(bNew 6 F_init [(eVar 1),(eVar 2)]
  (bCons (sFor [3] (iSeq (eVar 0)) (bCons (sExpr (eCallO 4 F_put [(eVar 3)]))
  bNil))
  (bCons (sRet (eCallO 4 F_params []))
  bNil)))
noncomputable def F_read_params (xs:List V):Option V:=runV 5 F_read_params_body (xs++[(.int 32),(.int 65535)])
noncomputable def F_law_value_body:SF:=(bCons (sAsg 1 (eCst .none))
  (bCons (sFor [2] (iSeq (eVar 0)) (bCons (sAsg 1 (eF2 minV (eBin .Sub (eBin .Add (eBin .Mult (eIf (tCmp .Is (eVar 1) (eCst .none)) (eCst (.int 0)) (eVar 1)) (eCst (.int 10))) (eVar 2)) (eCst (.int 48))) (eCst (.int 65535))))
  bNil))
  (bCons (sRet (eVar 1))
  bNil)))
noncomputable def F_law_value:List V→Option V:=runV 3 F_law_value_body
noncomputable def F_law_parted_body:SF:=(bCons (sAsg 1 (eF1 bytesV (eL (lCompA (iSeq (eVar 0)) [(tCmp2 .LtE .LtE (eCst (.int 48)) (eVar 0) (eCst (.int 59)))] (eVar 0)))))
  (bCons (sIf (tCmp .Eq (eVar 1) (eCst (.bytes []))) (bCons (sRet (eL (lDisp [(eL (lDisp [(eCst .none)]))])))
  bNil) bNil)
  (bCons (sRet (eL (lSlc (eL (lCompA (iSeq (eL (lF2 splitV (eVar 1) (eCst (.bytes [59]))))) [] (eL (lCompA (iSeq (eL (lF2 splitV (eVar 0) (eCst (.bytes [58]))))) [] (eCall F_law_value [(eVar 0)]))))) none (some (eCst (.int 32))))))
  bNil)))
noncomputable def F_law_parted:List V→Option V:=runV 2 F_law_parted_body
noncomputable def F_law_hue_body:SF:=(bCons (sAsg 2 (eL (lCompA (iSeq (eVar 1)) [] (eIf (tCmp .Is (eVar 0) (eCst .none)) (eCst (.int 0)) (eVar 0)))))
  (bCons (sAsg 3 (eF3 getV (eDct [((eCst (.int 5)),(eCst (.int 1))),((eCst (.int 2)),(eCst (.int 3)))]) (eVar 0) (eCst (.int 0))))
  (bCons (sIf (tOr (tCmp .Eq (eVar 3) (eCst (.int 0))) (tOr (tCmp .NotEq (eF1 lenV (eVar 2)) (eVar 3)) (tCmp .Gt (eF1 maxV (eVar 2)) (eCst (.int 255))))) (bCons (sRet (eCst .none))
  bNil) bNil)
  (bCons (sRet (eIf (tCmp .Eq (eVar 0) (eCst (.int 5))) (eIdx (eVar 2) (eCst (.int 0))) (eBin .Add (eBin .Add (eBin .Add (eCst (.int 16777216)) (eBin .Mult (eCst (.int 65536)) (eIdx (eVar 2) (eCst (.int 0))))) (eBin .Mult (eCst (.int 256)) (eIdx (eVar 2) (eCst (.int 1))))) (eIdx (eVar 2) (eCst (.int 2))))))
  bNil))))
noncomputable def F_law_hue:List V→Option V:=runV 4 F_law_hue_body
noncomputable def F_law_turns_body:SF:=(bCons (sRet (eDct [((eCst (.int 1)),(eTup [(eCst (.int 1)),(eCst (.int 0))])),((eCst (.int 2)),(eTup [(eCst (.int 2)),(eCst (.int 0))])),((eCst (.int 3)),(eTup [(eCst (.int 4)),(eCst (.int 0))])),((eCst (.int 5)),(eTup [(eCst (.int 8)),(eCst (.int 0))])),((eCst (.int 6)),(eTup [(eCst (.int 16)),(eCst (.int 0))])),((eCst (.int 7)),(eTup [(eCst (.int 32)),(eCst (.int 0))])),((eCst (.int 8)),(eTup [(eCst (.int 64)),(eCst (.int 0))])),((eCst (.int 9)),(eTup [(eCst (.int 128)),(eCst (.int 0))])),((eCst (.int 53)),(eTup [(eCst (.int 256)),(eCst (.int 0))])),((eCst (.int 22)),(eTup [(eCst (.int 0)),(eCst (.int 3))])),((eCst (.int 23)),(eTup [(eCst (.int 0)),(eCst (.int 4))])),((eCst (.int 25)),(eTup [(eCst (.int 0)),(eCst (.int 24))])),((eCst (.int 27)),(eTup [(eCst (.int 0)),(eCst (.int 32))])),((eCst (.int 28)),(eTup [(eCst (.int 0)),(eCst (.int 64))])),((eCst (.int 29)),(eTup [(eCst (.int 0)),(eCst (.int 128))])),((eCst (.int 55)),(eTup [(eCst (.int 0)),(eCst (.int 256))]))]))
  bNil)
noncomputable def F_law_turns:List V→Option V:=runV 0 F_law_turns_body
noncomputable def F_law_seen_body:SF:=(bCons (sTup true [(.l 2 (lOf (eSlc (eVar 0) (some (eCst (.int 1))) (some (eCst (.int 4)))))),(.v 3 (eBin .Mod (eIdx (eVar 0) (eCst (.int 0))) (eCst (.int 512)))),(.v 4 (eBin .FloorDiv (eIdx (eVar 0) (eCst (.int 0))) (eCst (.int 512))))])
  (bCons (sTup true [(.v 5 (eCall F_law_parted [(eVar 1)])),(.v 6 (eCst (.int 0)))])
  (bCons (sWhile 2000 (tCmp .Lt (eVar 6) (eF1 lenV (eVar 5))) (bCons (sTup true [(.v 7 (eIdx (eVar 5) (eVar 6))),(.v 6 (eBin .Add (eVar 6) (eCst (.int 1))))])
  (bCons (sAsg 8 (eIf (tCmp .IsNot (eIdx (eVar 7) (eCst (.int 0))) (eCst .none)) (eIdx (eVar 7) (eCst (.int 0))) (eCst (.int 0))))
  (bCons (sIf (tCmp .In (eVar 8) (eTup [(eCst (.int 38)),(eCst (.int 48)),(eCst (.int 58))])) (bCons (sAsg 9 (eF2 indexV (eTup [(eCst (.int 38)),(eCst (.int 48)),(eCst (.int 58))]) (eVar 8)))
  (bCons (sIf (tCmp .Gt (eF1 lenV (eVar 7)) (eCst (.int 1))) (bCons (sAsg 10 (eCall F_law_hue [(eIdx (eVar 7) (eCst (.int 1))),(eIf (tAnd (tCmp .Eq (eIdx (eVar 7) (eCst (.int 1))) (eCst (.int 2))) (tCmp .Gt (eF1 lenV (eVar 7)) (eCst (.int 5)))) (eL (lSlc (eVar 7) (some (eCst (.int 3))) none)) (eL (lSlc (eVar 7) (some (eCst (.int 2))) none)))]))
  bNil) (bCons (sAsg 11 (eIf (tCmp .Lt (eVar 6) (eF1 lenV (eVar 5))) (eIdx (eIdx (eVar 5) (eVar 6)) (eCst (.int 0))) (eCst .none)))
  (bCons (sAsg 12 (eF3 getV (eDct [((eCst (.int 5)),(eCst (.int 1))),((eCst (.int 2)),(eCst (.int 3)))]) (eVar 11) (eCst (.int 0))))
  (bCons (sAsg 10 (eCall F_law_hue [(eVar 11),(eL (lCompA (iSeq (eL (lSlc (eVar 5) (some (eBin .Add (eVar 6) (eCst (.int 1)))) (some (eBin .Add (eBin .Add (eVar 6) (eCst (.int 1))) (eVar 12)))))) [] (eIdx (eVar 0) (eCst (.int 0)))))]))
  (bCons (sAsg 6 (eBin .Add (eBin .Add (eVar 6) (eCst (.int 1))) (eVar 12)))
  bNil)))))
  (bCons (sSetIdx 2 (eVar 9) (eIf (tCmp .Is (eVar 10) (eCst .none)) (eGetS 2 (eVar 9)) (eVar 10)))
  bNil))) (bCons (sIf (tCmp .Gt (eF1 lenV (eVar 7)) (eCst (.int 1))) (bCons (sIf (tAnd (tCmp .Eq (eVar 8) (eCst (.int 4))) (tAnd (tCmp .Eq (eF1 lenV (eVar 7)) (eCst (.int 2))) (tCmp .In (eIdx (eVar 7) (eCst (.int 1))) (eTup [(eCst (.int 0)),(eCst (.int 1)),(eCst (.int 2)),(eCst (.int 3)),(eCst (.int 4)),(eCst (.int 5))])))) (bCons (sAsg 4 (eIdx (eVar 7) (eCst (.int 1))))
  bNil) bNil)
  bNil) (bCons (sIf (tCmp .Eq (eVar 8) (eCst (.int 0))) (bCons (sTup true [(.l 2 (lDisp [(eUn .USub (eCst (.int 1))),(eUn .USub (eCst (.int 1))),(eUn .USub (eCst (.int 1)))])),(.v 3 (eCst (.int 0))),(.v 4 (eCst (.int 0)))])
  bNil) (bCons (sIf (tCmp .In (eVar 8) (eTup [(eCst (.int 4)),(eCst (.int 21)),(eCst (.int 24))])) (bCons (sAsg 4 (eIdx (eDct [((eCst (.int 4)),(eCst (.int 1))),((eCst (.int 21)),(eCst (.int 2))),((eCst (.int 24)),(eCst (.int 0)))]) (eVar 8)))
  bNil) (bCons (sIf (tCmp .In (eVar 8) (eCall F_law_turns [])) (bCons (sAsg 3 (eBin .BitAnd (eBin .BitOr (eVar 3) (eIdx (eIdx (eCall F_law_turns []) (eVar 8)) (eCst (.int 0)))) (eBin .Sub (eCst (.int 511)) (eIdx (eIdx (eCall F_law_turns []) (eVar 8)) (eCst (.int 1))))))
  bNil) (bCons (sFor [9,13,14] (iSeq (eTup [(eTup [(eCst (.int 0)),(eCst (.int 30)),(eCst (.int 90))]),(eTup [(eCst (.int 1)),(eCst (.int 40)),(eCst (.int 100))]),(eTup [(eCst (.int 2)),(eCst (.int 50)),(eCst (.int 999))])])) (bCons (sIf (tAnd (tCmp .Lt (eVar 9) (eCst (.int 2))) (tOr (tCmp2 .LtE .Lt (eVar 13) (eVar 8) (eBin .Add (eVar 13) (eCst (.int 8)))) (tCmp2 .LtE .Lt (eVar 14) (eVar 8) (eBin .Add (eVar 14) (eCst (.int 8)))))) (bCons (sSetIdx 2 (eVar 9) (eIf (tCmp .Lt (eVar 8) (eVar 14)) (eBin .Sub (eVar 8) (eVar 13)) (eBin .Add (eBin .Sub (eVar 8) (eVar 14)) (eCst (.int 8)))))
  bNil) bNil)
  (bCons (sIf (tCmp .Eq (eVar 8) (eBin .Add (eVar 13) (eCst (.int 9)))) (bCons (sSetIdx 2 (eVar 9) (eUn .USub (eCst (.int 1))))
  bNil) bNil)
  bNil)))
  bNil))
  bNil))
  bNil))
  bNil))
  bNil))
  bNil))))
  (bCons (sRet (eTup [(eBin .Add (eVar 3) (eBin .Mult (eCst (.int 512)) (eVar 4))),(eGetS 2 (eCst (.int 0))),(eGetS 2 (eCst (.int 1))),(eGetS 2 (eCst (.int 2))),(eIdx (eVar 0) (eCst (.int 4)))]))
  bNil))))
noncomputable def F_law_seen:List V→Option V:=runV 15 F_law_seen_body
noncomputable def F_law_look_body:SF:=(bCons (sAsg 0 (eTup [(eUn .USub (eCst (.int 1))),(eCst (.int 0)),(eCst (.int 12)),(eCst (.int 200)),(eBin .Add (eCst (.int 16777216)) (eCst (.int 66051)))]))
  (bCons (sAsg 1 (eL (lComp 2 1 [0] (iRange (eCst (.int 3))) [] (eIdx (eVar 1) (eCallO 2 F_law_draw [(eF1 lenV (eVar 1))])))))
  (bCons (sRet (eTup [(eBin .Add (eCallO 2 F_law_draw [(eCst (.int 512))]) (eBin .Mult (eCst (.int 512)) (eCallO 2 F_law_draw [(eCst (.int 6))]))),(eIdx (eVar 1) (eCst (.int 0))),(eIdx (eVar 1) (eCst (.int 1))),(eIdx (eVar 1) (eCst (.int 2))),(eCallO 2 F_law_draw [(eCst (.int 3))])]))
  bNil)))
noncomputable def F_law_look:List Slot→List V→Option (V×List Slot):=runO 2 F_law_look_body
noncomputable def F_direct_colour_body:SF:=(bCons (sRet (eBin .Add (eCst G_DIRECT) (eBin .BitOr (eBin .BitOr (eBin .LShift (eVar 0) (eCst (.int 16))) (eBin .LShift (eVar 1) (eCst (.int 8)))) (eVar 2))))
  bNil)
noncomputable def F_direct_colour:List V→Option V:=runV 3 F_direct_colour_body
noncomputable def F_pen_colour_of_body:SF:=(bCons (sAsg 2 (eL (lCompA (iSeq (eVar 1)) [] (eIf (tCmp .Is (eVar 0) (eCst .none)) (eCst (.int 0)) (eVar 0)))))
  (bCons (sIf (tAnd (tCmp .Eq (eVar 0) (eCst (.int 5))) (tAnd (tCmp .GtE (eF1 lenV (eVar 2)) (eCst (.int 1))) (tCmp .LtE (eIdx (eVar 2) (eCst (.int 0))) (eCst G_MOST_COLOUR)))) (bCons (sRet (eIdx (eVar 2) (eCst (.int 0))))
  bNil) bNil)
  (bCons (sIf (tAnd (tCmp .Eq (eVar 0) (eCst (.int 2))) (tAnd (tCmp .GtE (eF1 lenV (eVar 2)) (eCst (.int 3))) (tCmp .LtE (eF1 maxV (eL (lSlc (eVar 2) none (some (eCst (.int 3)))))) (eCst G_MOST_COLOUR)))) (bCons (sRet (eCall F_direct_colour [(eIdx (eVar 2) (eCst (.int 0))),(eIdx (eVar 2) (eCst (.int 1))),(eIdx (eVar 2) (eCst (.int 2)))]))
  bNil) bNil)
  (bCons (sRet (eCst .none))
  bNil))))
noncomputable def F_pen_colour_of:List V→Option V:=runV 3 F_pen_colour_of_body
noncomputable def F_pen_with_body:SF:=(bCons (sRet (eBin .Add (eBin .Add (eSlc (eVar 0) none (some (eVar 1))) (eTup [(eVar 2)])) (eSlc (eVar 0) (some (eBin .Add (eVar 1) (eCst (.int 1)))) none)))
  bNil)
noncomputable def F_pen_with:List V→Option V:=runV 3 F_pen_with_body
noncomputable def F_flags_with_under_body:SF:=(bCons (sRet (eBin .BitOr (eBin .BitAnd (eVar 0) (eUn .Invert (eCst G_UNDER_MASK))) (eBin .LShift (eVar 1) (eCst G_UNDER_SHIFT))))
  bNil)
noncomputable def F_flags_with_under:List V→Option V:=runV 2 F_flags_with_under_body
noncomputable def F_pen_sub_changed_body:SF:=(bCons (sTup true [(.v 2 (eIdx (eVar 1) (eCst (.int 0)))),(.v 3 (eL (lSlc (eVar 1) (some (eCst (.int 1))) none)))])
  (bCons (sIf (tCmp .Eq (eVar 2) (eCst (.int 4))) (bCons (sIf (tAnd (tCmp .Eq (eF1 lenV (eVar 3)) (eCst (.int 1))) (tAnd (tCmp .IsNot (eIdx (eVar 3) (eCst (.int 0))) (eCst .none)) (tCmp .LtE (eIdx (eVar 3) (eCst (.int 0))) (eCst (.int 5))))) (bCons (sRet (eCall F_pen_with [(eVar 0),(eCst G_FLAGS),(eCall F_flags_with_under [(eIdx (eVar 0) (eCst G_FLAGS)),(eIdx (eVar 3) (eCst (.int 0)))])]))
  bNil) bNil)
  (bCons (sRet (eVar 0))
  bNil)) bNil)
  (bCons (sAsg 4 (eDct [((eCst G_SGR_FORE),(eCst G_FORE)),((eCst G_SGR_BACK),(eCst G_BACK)),((eCst G_SGR_UNDER),(eCst G_UNDER))]))
  (bCons (sIf (tCmp .NotIn (eVar 2) (eVar 4)) (bCons (sRet (eVar 0))
  bNil) bNil)
  (bCons (sAsg 5 (eL (lSlc (eVar 3) (some (eCst (.int 1))) none)))
  (bCons (sIf (tAnd (tCmp .Eq (eIdx (eVar 3) (eCst (.int 0))) (eCst (.int 2))) (tCmp .Gt (eF1 lenV (eVar 5)) (eCst (.int 3)))) (bCons (sAsg 5 (eL (lSlc (eVar 5) (some (eCst (.int 1))) none)))
  bNil) bNil)
  (bCons (sAsg 6 (eCall F_pen_colour_of [(eIdx (eVar 3) (eCst (.int 0))),(eVar 5)]))
  (bCons (sRet (eIf (tCmp .Is (eVar 6) (eCst .none)) (eVar 0) (eCall F_pen_with [(eVar 0),(eIdx (eVar 4) (eVar 2)),(eVar 6)])))
  bNil))))))))
noncomputable def F_pen_sub_changed:List V→Option V:=runV 7 F_pen_sub_changed_body
noncomputable def F_pen_told_apart_body:SF:=(bCons (sAsg 2 (eL (lCompA (iSeq (eL (lSlc (eVar 0) (some (eBin .Add (eVar 1) (eCst (.int 1)))) (some (eBin .Add (eVar 1) (eCst (.int 5))))))) [] (eIdx (eVar 0) (eCst (.int 0))))))
  (bCons (sIf (tCmp .Eq (eF1 lenV (eVar 2)) (eCst (.int 0))) (bCons (sRet (eTup [(eCst .none),(eBin .Add (eVar 1) (eCst (.int 1)))]))
  bNil) bNil)
  (bCons (sAsg 3 (eF3 getV (eDct [((eCst (.int 5)),(eCst (.int 1))),((eCst (.int 2)),(eCst (.int 3)))]) (eIdx (eVar 2) (eCst (.int 0))) (eCst (.int 0))))
  (bCons (sRet (eTup [(eCall F_pen_colour_of [(eIdx (eVar 2) (eCst (.int 0))),(eL (lSlc (eVar 2) (some (eCst (.int 1))) (some (eBin .Add (eCst (.int 1)) (eVar 3)))))]),(eBin .Add (eBin .Add (eVar 1) (eCst (.int 2))) (eVar 3))]))
  bNil))))
noncomputable def F_pen_told_apart:List V→Option V:=runV 4 F_pen_told_apart_body
noncomputable def F_pen_bits_body:SF:=(bCons (sRet (eTup [(eTup [(eCst G_BOLD),(eCst (.int 1)),(eCst (.int 22))]),(eTup [(eCst G_FAINT),(eCst (.int 2)),(eCst (.int 22))]),(eTup [(eCst G_ITALIC),(eCst (.int 3)),(eCst (.int 23))]),(eTup [(eCst G_BLINK),(eCst (.int 5)),(eCst (.int 25))]),(eTup [(eCst G_FAST),(eCst (.int 6)),(eCst (.int 25))]),(eTup [(eCst G_INVERSE),(eCst (.int 7)),(eCst (.int 27))]),(eTup [(eCst G_HIDDEN),(eCst (.int 8)),(eCst (.int 28))]),(eTup [(eCst G_STRUCK),(eCst (.int 9)),(eCst (.int 29))]),(eTup [(eCst G_OVERLINE),(eCst (.int 53)),(eCst (.int 55))])]))
  bNil)
noncomputable def F_pen_bits:List V→Option V:=runV 0 F_pen_bits_body
noncomputable def F_pen_plain_changed_body:SF:=(bCons (sAsg 2 (eIdx (eVar 0) (eCst G_FLAGS)))
  (bCons (sIf (tCmp .Eq (eVar 1) (eCst G_SGR_RESET)) (bCons (sRet (eCall F_pen_with [(eCst G_PLAIN),(eCst G_LINK),(eIdx (eVar 0) (eCst G_LINK))]))
  bNil) bNil)
  (bCons (sIf (tOr (tCmp .Eq (eVar 1) (eCst (.int 4))) (tOr (tCmp .Eq (eVar 1) (eCst (.int 21))) (tCmp .Eq (eVar 1) (eCst (.int 24))))) (bCons (sRet (eCall F_pen_with [(eVar 0),(eCst G_FLAGS),(eCall F_flags_with_under [(eVar 2),(eIdx (eDct [((eCst (.int 4)),(eCst (.int 1))),((eCst (.int 21)),(eCst (.int 2))),((eCst (.int 24)),(eCst (.int 0)))]) (eVar 1))])]))
  bNil) bNil)
  (bCons (sFor [3,4] (iSeq (eTup [(eTup [(eCst G_FORE),(eCst (.int 30))]),(eTup [(eCst G_BACK),(eCst (.int 40))])])) (bCons (sIf (tCmp2 .LtE .LtE (eVar 4) (eVar 1) (eBin .Add (eVar 4) (eCst (.int 7)))) (bCons (sRet (eCall F_pen_with [(eVar 0),(eVar 3),(eBin .Sub (eVar 1) (eVar 4))]))
  bNil) bNil)
  (bCons (sIf (tCmp .Eq (eVar 1) (eBin .Add (eVar 4) (eCst (.int 9)))) (bCons (sRet (eCall F_pen_with [(eVar 0),(eVar 3),(eCst G_NO_COLOUR)]))
  bNil) bNil)
  (bCons (sIf (tCmp2 .LtE .LtE (eBin .Add (eVar 4) (eCst (.int 60))) (eVar 1) (eBin .Add (eVar 4) (eCst (.int 67)))) (bCons (sRet (eCall F_pen_with [(eVar 0),(eVar 3),(eBin .Add (eBin .Sub (eBin .Sub (eVar 1) (eVar 4)) (eCst (.int 60))) (eCst G_FIRST_BRIGHT))]))
  bNil) bNil)
  bNil))))
  (bCons (sIf (tCmp .Eq (eVar 1) (eCst (.int 59))) (bCons (sRet (eCall F_pen_with [(eVar 0),(eCst G_UNDER),(eCst G_NO_COLOUR)]))
  bNil) bNil)
  (bCons (sFor [5,6,7] (iSeq (eCall F_pen_bits [])) (bCons (sIf (tCmp .Eq (eVar 1) (eVar 6)) (bCons (sAug 2 .BitOr (eVar 5))
  bNil) (bCons (sIf (tCmp .Eq (eVar 1) (eVar 7)) (bCons (sAug 2 .BitAnd (eUn .Invert (eVar 5)))
  bNil) bNil)
  bNil))
  bNil))
  (bCons (sRet (eCall F_pen_with [(eVar 0),(eCst G_FLAGS),(eVar 2)]))
  bNil)))))))
noncomputable def F_pen_plain_changed:List V→Option V:=runV 8 F_pen_plain_changed_body
noncomputable def F_apply_sgr_body:SF:=(bCons (sTup true [(.v 2 (eVar 0)),(.v 3 (eCst (.int 0)))])
  (bCons (sAsg 4 (eIf (tCmp .Gt (eF1 lenV (eVar 1)) (eCst (.int 0))) (eVar 1) (eL (lDisp [(eL (lDisp [(eCst .none)]))]))))
  (bCons (sAsg 5 (eDct [((eCst G_SGR_FORE),(eCst G_FORE)),((eCst G_SGR_BACK),(eCst G_BACK)),((eCst G_SGR_UNDER),(eCst G_UNDER))]))
  (bCons (sWhile 2000 (tCmp .Lt (eVar 3) (eF1 lenV (eVar 4))) (bCons (sAsg 6 (eIdx (eVar 4) (eVar 3)))
  (bCons (sAsg 7 (eIf (tCmp .Is (eIdx (eVar 6) (eCst (.int 0))) (eCst .none)) (eCst G_SGR_RESET) (eIdx (eVar 6) (eCst (.int 0)))))
  (bCons (sIf (tCmp .Gt (eF1 lenV (eVar 6)) (eCst (.int 1))) (bCons (sAsg 2 (eCall F_pen_sub_changed [(eVar 2),(eVar 6)]))
  (bCons (sAug 3 .Add (eCst (.int 1)))
  bNil)) (bCons (sIf (tCmp .In (eVar 7) (eVar 5)) (bCons (sUnp [8,3] (eCall F_pen_told_apart [(eVar 4),(eVar 3)]))
  (bCons (sAsg 2 (eIf (tCmp .Is (eVar 8) (eCst .none)) (eVar 2) (eCall F_pen_with [(eVar 2),(eIdx (eVar 5) (eVar 7)),(eVar 8)])))
  bNil)) (bCons (sAsg 2 (eCall F_pen_plain_changed [(eVar 2),(eVar 7)]))
  (bCons (sAug 3 .Add (eCst (.int 1)))
  bNil)))
  bNil))
  bNil))))
  (bCons (sRet (eVar 2))
  bNil)))))
noncomputable def F_apply_sgr:List V→Option V:=runV 9 F_apply_sgr_body
noncomputable def F_sgr_bit_params_body:SF:=(bCons (sTup true [(.l 2 (lDisp [])),(.l 3 (lDisp [])),(.v 4 (eVar 0))])
  (bCons (sFor [5,6,7] (iSeq (eCall F_pen_bits [])) (bCons (sIf (tAnd (tVal (eBin .BitAnd (eVar 4) (eVar 5))) (tNot (tVal (eBin .BitAnd (eVar 1) (eVar 5))))) (bCons (sApp 2 (eL (lDisp [(eVar 7)])))
  (bCons (sFor [8,9,10] (iSeq (eCall F_pen_bits [])) (bCons (sIf (tCmp .Eq (eVar 10) (eVar 7)) (bCons (sAug 4 .BitAnd (eUn .Invert (eVar 8)))
  bNil) bNil)
  bNil))
  bNil)) bNil)
  bNil))
  (bCons (sFor [5,6,7] (iSeq (eCall F_pen_bits [])) (bCons (sIf (tAnd (tVal (eBin .BitAnd (eVar 1) (eVar 5))) (tNot (tVal (eBin .BitAnd (eVar 4) (eVar 5))))) (bCons (sApp 3 (eL (lDisp [(eVar 6)])))
  bNil) bNil)
  bNil))
  (bCons (sRet (eL (lAdd (eVar 2) (eVar 3))))
  bNil))))
noncomputable def F_sgr_bit_params:List V→Option V:=runV 11 F_sgr_bit_params_body
noncomputable def F_sgr_under_params_body:SF:=(bCons (sIf (tCmp .Eq (eVar 0) (eVar 1)) (bCons (sRet (eL (lDisp [])))
  bNil) bNil)
  (bCons (sAsg 2 (eDct [((eCst (.int 0)),(eL (lDisp [(eCst (.int 24))]))),((eCst (.int 1)),(eL (lDisp [(eCst (.int 4))]))),((eCst (.int 2)),(eL (lDisp [(eCst (.int 21))])))]))
  (bCons (sRet (eL (lDisp [(eIf (tCmp .In (eVar 1) (eVar 2)) (eIdx (eVar 2) (eVar 1)) (eL (lDisp [(eCst (.int 4)),(eVar 1)])))])))
  bNil)))
noncomputable def F_sgr_under_params:List V→Option V:=runV 3 F_sgr_under_params_body
noncomputable def F_under_of_body:SF:=(bCons (sRet (eBin .RShift (eBin .BitAnd (eVar 0) (eCst G_UNDER_MASK)) (eCst G_UNDER_SHIFT)))
  bNil)
noncomputable def F_under_of:List V→Option V:=runV 1 F_under_of_body
noncomputable def F_is_direct_body:SF:=(bCons (sRet (eCmp .GtE (eVar 0) (eCst G_DIRECT)))
  bNil)
noncomputable def F_is_direct:List V→Option V:=runV 1 F_is_direct_body
noncomputable def F_rgb_of_body:SF:=(bCons (sRet (eTup [(eBin .BitAnd (eBin .RShift (eVar 0) (eCst (.int 16))) (eCst (.int 255))),(eBin .BitAnd (eBin .RShift (eVar 0) (eCst (.int 8))) (eCst (.int 255))),(eBin .BitAnd (eVar 0) (eCst (.int 255)))]))
  bNil)
noncomputable def F_rgb_of:List V→Option V:=runV 1 F_rgb_of_body
noncomputable def F_sgr_colour_params_body:SF:=(bCons (sAsg 2 (eIdx (eDct [((eCst G_FORE),(eCst (.int 30))),((eCst G_BACK),(eCst (.int 40))),((eCst G_UNDER),(eCst (.int 50)))]) (eVar 0)))
  (bCons (sIf (tCmp .Eq (eVar 1) (eCst G_NO_COLOUR)) (bCons (sRet (eL (lDisp [(eL (lDisp [(eBin .Add (eVar 2) (eCst (.int 9)))]))])))
  bNil) bNil)
  (bCons (sIf (tVal (eCall F_is_direct [(eVar 1)])) (bCons (sUnp [3,4,5] (eCall F_rgb_of [(eVar 1)]))
  (bCons (sRet (eL (lDisp [(eL (lDisp [(eBin .Add (eVar 2) (eCst (.int 8)))])),(eL (lDisp [(eCst (.int 2))])),(eL (lDisp [(eVar 3)])),(eL (lDisp [(eVar 4)])),(eL (lDisp [(eVar 5)]))])))
  bNil)) bNil)
  (bCons (sIf (tOr (tCmp .Eq (eVar 0) (eCst G_UNDER)) (tCmp .GtE (eVar 1) (eCst (.int 16)))) (bCons (sRet (eL (lDisp [(eL (lDisp [(eBin .Add (eVar 2) (eCst (.int 8)))])),(eL (lDisp [(eCst (.int 5))])),(eL (lDisp [(eVar 1)]))])))
  bNil) bNil)
  (bCons (sRet (eL (lDisp [(eL (lDisp [(eIf (tCmp .Lt (eVar 1) (eCst G_FIRST_BRIGHT)) (eBin .Add (eVar 2) (eVar 1)) (eBin .Sub (eBin .Add (eBin .Add (eVar 2) (eCst (.int 60))) (eVar 1)) (eCst G_FIRST_BRIGHT)))]))])))
  bNil)))))
noncomputable def F_sgr_colour_params:List V→Option V:=runV 6 F_sgr_colour_params_body
noncomputable def F_sgr_changes_body:SF:=(bCons (sAsg 2 (eCall F_sgr_bit_params [(eIdx (eVar 0) (eCst G_FLAGS)),(eIdx (eVar 1) (eCst G_FLAGS))]))
  (bCons (sAsg 2 (eL (lAdd (eVar 2) (eCall F_sgr_under_params [(eCall F_under_of [(eIdx (eVar 0) (eCst G_FLAGS))]),(eCall F_under_of [(eIdx (eVar 1) (eCst G_FLAGS))])]))))
  (bCons (sFor [3] (iSeq (eTup [(eCst G_FORE),(eCst G_BACK),(eCst G_UNDER)])) (bCons (sIf (tCmp .NotEq (eIdx (eVar 0) (eVar 3)) (eIdx (eVar 1) (eVar 3))) (bCons (sAsg 2 (eL (lAdd (eVar 2) (eCall F_sgr_colour_params [(eVar 3),(eIdx (eVar 1) (eVar 3))]))))
  bNil) bNil)
  bNil))
  (bCons (sRet (eVar 2))
  bNil))))
noncomputable def F_sgr_changes:List V→Option V:=runV 4 F_sgr_changes_body
noncomputable def F_pen_told_body:SF:=(bCons (sAsgL 2 (lDisp []))
  (bCons (sFor [3] (iSeq (eSlc (eVar 0) (some (eCst G_FORE)) (some (eBin .Add (eCst G_UNDER) (eCst (.int 1)))))) (bCons (sApp 2 (eIf (tAnd (tVal (eCall F_is_direct [(eVar 3)])) (tNot (tVal (eVar 1)))) (eCall F_nearest_of_256 [(eBin .Sub (eVar 3) (eCst G_DIRECT))]) (eVar 3)))
  bNil))
  (bCons (sRet (eTup [(eIdx (eVar 0) (eCst G_FLAGS)),(eGetS 2 (eCst (.int 0))),(eGetS 2 (eCst (.int 1))),(eGetS 2 (eCst (.int 2))),(eCst (.int 0))]))
  bNil)))
noncomputable def F_pen_told:List V→Option V:=runV 4 F_pen_told_body
noncomputable def F_decimal_octets_body:SF:=(bCons (sAsg 1 (eIf (tCmp .GtE (eVar 0) (eCst (.int 0))) (eVar 0) (eUn .USub (eVar 0))))
  (bCons (sAsgL 2 (lDisp [(eBin .Add (eCst (.int 48)) (eBin .Mod (eVar 1) (eCst (.int 10))))]))
  (bCons (sAsg 1 (eBin .FloorDiv (eVar 1) (eCst (.int 10))))
  (bCons (sWhile 2000 (tCmp .Gt (eVar 1) (eCst (.int 0))) (bCons (sApp 2 (eBin .Add (eCst (.int 48)) (eBin .Mod (eVar 1) (eCst (.int 10)))))
  (bCons (sAsg 1 (eBin .FloorDiv (eVar 1) (eCst (.int 10))))
  bNil)))
  (bCons (sIf (tCmp .Lt (eVar 0) (eCst (.int 0))) (bCons (sApp 2 (eCst (.int 45)))
  bNil) bNil)
  (bCons (sRet (eF1 bytesV (eL (lRev (eVar 2)))))
  bNil))))))
noncomputable def F_decimal_octets:List V→Option V:=runV 3 F_decimal_octets_body
noncomputable def F_part_octets_body:SF:=(bCons (sRet (eIf (tCmp .Is (eVar 0) (eCst .none)) (eCst (.bytes [])) (eCall F_decimal_octets [(eVar 0)])))
  bNil)
noncomputable def F_part_octets:List V→Option V:=runV 1 F_part_octets_body
noncomputable def F_params_octets_body:SF:=(bCons (sRet (eF2 joinV (eCst (.bytes [59])) (eL (lCompA (iSeq (eVar 0)) [] (eF2 joinV (eCst (.bytes [58])) (eL (lCompA (iSeq (eVar 0)) [] (eCall F_part_octets [(eVar 0)]))))))))
  bNil)
noncomputable def F_params_octets:List V→Option V:=runV 1 F_params_octets_body
noncomputable def F_sgr_params_body:SF:=(bCons (sTup true [(.v 3 (eCall F_pen_told [(eVar 0),(eVar 2)])),(.v 4 (eCall F_pen_told [(eVar 1),(eVar 2)]))])
  (bCons (sIf (tCmp .Eq (eVar 3) (eVar 4)) (bCons (sRet (eCst .none))
  bNil) bNil)
  (bCons (sAsg 5 (eCall F_sgr_changes [(eVar 3),(eVar 4)]))
  (bCons (sAsg 6 (eCall F_sgr_changes [(eCst G_PLAIN),(eVar 4)]))
  (bCons (sAsg 6 (eIf (tCmp .Eq (eF1 lenV (eVar 6)) (eCst (.int 0))) (eL (lDisp [])) (eL (lAdd (eL (lDisp [(eL (lDisp [(eCst G_SGR_RESET)]))])) (eVar 6)))))
  (bCons (sRet (eIf (tCmp .LtE (eF1 lenV (eCall F_params_octets [(eVar 5)])) (eF1 lenV (eCall F_params_octets [(eVar 6)]))) (eVar 5) (eVar 6)))
  bNil))))))
noncomputable def F_sgr_params:List V→Option V:=runV 7 F_sgr_params_body
noncomputable def F_sgr_octets_body:SF:=(bCons (sAsg 3 (eCall F_sgr_params [(eVar 0),(eVar 1),(eVar 2)]))
  (bCons (sRet (eIf (tCmp .Is (eVar 3) (eCst .none)) (eCst (.bytes [])) (eBin .Add (eBin .Add (eCst (.bytes [27,91])) (eCall F_params_octets [(eVar 3)])) (eCst (.bytes [109])))))
  bNil))
noncomputable def F_sgr_octets (xs:List V):Option V:=runV 4 F_sgr_octets_body (xs++[(.bool true)])
noncomputable def F_law_inside_body:SF:=(bCons (sRet (eSlc (eVar 0) (some (eCst (.int 2))) (some (eUn .USub (eCst (.int 1))))))
  bNil)
noncomputable def F_law_inside:List V→Option V:=runV 1 F_law_inside_body
noncomputable def F_law_leads_right_body:SF:=(bCons (sAsg 2 (eCall F_sgr_octets [(eVar 0),(eVar 1)]))
  (bCons (sIf (tCmp .Eq (eVar 2) (eCst (.bytes []))) (bCons (sRet (eCmp .Eq (eSlc (eVar 0) none (some (eCst (.int 4)))) (eSlc (eVar 1) none (some (eCst (.int 4))))))
  bNil) bNil)
  (bCons (sRet (eAnd (eCmp .Eq (eSlc (eVar 2) none (some (eCst (.int 2)))) (eCst (.bytes [27,91]))) (eAnd (eCmp .Eq (eSlc (eVar 2) (some (eUn .USub (eCst (.int 1)))) none) (eCst (.bytes [109]))) (eCmp .Eq (eCall F_law_seen [(eVar 0),(eCall F_law_inside [(eVar 2)])]) (eBin .Add (eSlc (eVar 1) none (some (eCst (.int 4)))) (eSlc (eVar 0) (some (eCst (.int 4))) none))))))
  bNil)))
noncomputable def F_law_leads_right:List V→Option V:=runV 3 F_law_leads_right_body
noncomputable def F_law_body:SF:=(bGet F_law_deck [(eVar 0)]
  (bCons (sAsg 1 (eL (lComp 11 1 [] (iRange (eBin .Add (eCst (.int 1)) (eCallO 11 F_law_draw [(eCst (.int 9))]))) [] (eIdx (eCst G_law_pieces) (eCallO 1 F_law_draw [(eF1 lenV (eCst G_law_pieces))])))))
  (bCons (sTup true [(.v 2 (eCallO 11 F_law_look [])),(.v 3 (eCallO 11 F_law_look []))])
  (bCons (sIf (tCmp .Eq (eCallO 11 F_law_draw [(eCst (.int 6))]) (eCst (.int 5))) (bCons (sAsg 1 (eL (lAdd (eL (lMul (eL (lDisp [(eIdx (eVar 1) (eCst (.int 0)))])) (eCst (.int 34)))) (eVar 1))))
  bNil) bNil)
  (bCons (sAsg 4 (eCallO 11 F_law_draw [(eBin .Add (eF1 lenV (eVar 1)) (eCst (.int 1)))]))
  (bCons (sAsg 5 (eF2 joinV (eCst (.bytes [59])) (eVar 1)))
  (bCons (sIf (tAnd (tCmp .Lt (eF2 countV (eVar 5) (eCst (.bytes [59]))) (eCst (.int 32))) (tCmp2 .Lt .Lt (eCst (.int 0)) (eVar 4) (eF1 lenV (eVar 1)))) (bCons (sAsg 6 (eCall F_apply_sgr [(eVar 2),(eCall F_read_params [(eF2 joinV (eCst (.bytes [59])) (eL (lSlc (eVar 1) none (some (eVar 4)))))])]))
  (bCons (sIf (tCmp .NotEq (eCall F_apply_sgr [(eVar 6),(eCall F_read_params [(eF2 joinV (eCst (.bytes [59])) (eL (lSlc (eVar 1) (some (eVar 4)) none)))])]) (eCall F_apply_sgr [(eVar 2),(eCall F_read_params [(eVar 5)])])) (bCons (sRet (eCst (.bool false)))
  bNil) bNil)
  bNil)) bNil)
  (bCons (sAsg 5 (eBin .Add (eVar 5) (eIdx (eTup [(eCst (.bytes [])),(eCst (.bytes [59,51,56])),(eCst (.bytes [59,52,56,59,53])),(eCst (.bytes [59,53,56,59,50,59,49]))]) (eCallO 11 F_law_draw [(eCst (.int 4))]))))
  (bCons (sTup true [(.v 7 (eCallO 11 F_law_draw [(eBin .Add (eF1 lenV (eVar 5)) (eCst (.int 1)))])),(.v 8 (eIdx (eTup [(eCst (.bytes [])),(eCst (.bytes [])),(eCst (.bytes [32])),(eCst (.bytes [60])),(eCst (.bytes [120])),(eCst (.bytes [27]))]) (eCallO 11 F_law_draw [(eCst (.int 6))])))])
  (bCons (sAsg 9 (eCall F_read_params [(eBin .Add (eBin .Add (eSlc (eVar 5) none (some (eVar 7))) (eIf (tCmp .NotEq (eVar 5) (eCst (.bytes []))) (eVar 8) (eCst (.bytes [])))) (eSlc (eVar 5) (some (eVar 7)) none))]))
  (bCons (sAsg 10 (eCall F_law_seen [(eVar 2),(eVar 5)]))
  (bCons (sIf (tOr (tCmp .NotEq (eCall F_apply_sgr [(eVar 2),(eVar 9)]) (eVar 10)) (tCmp .NotEq (eCall F_apply_sgr [(eVar 2),(eCall F_read_params [(eCall F_params_octets [(eVar 9)])])]) (eVar 10))) (bCons (sRet (eCst (.bool false)))
  bNil) bNil)
  (bCons (sRet (eAnd (eCall F_law_leads_right [(eVar 2),(eVar 10)]) (eAnd (eCall F_law_leads_right [(eVar 10),(eVar 3)]) (eCall F_law_leads_right [(eVar 3),(eVar 2)]))))
  bNil)))))))))))))
noncomputable def F_law:List V→Option V:=runV 12 F_law_body
end Mine
end
section
open PySem PySem.Calls PyProof.Rows PySem.W
set_option maxRecDepth 10000
namespace Mine
noncomputable abbrev Gh:=Addr→Option Obj
noncomputable def Gh.le (g g':Gh):Prop:=∀ a o,g a=some o→g' a=some o
noncomputable def Gh.inH (g:Gh) (h:Heap):Prop:=∀ a o,g a=some o→h.get? a=some o
theorem Gh.le.refl (g:Gh):g.le g:=fun _ _ e=>e
theorem Gh.le.trans {a b c:Gh} (x:a.le b) (y:b.le c):a.le c:=fun q o e=>y q o (x q o e)
noncomputable def Gh.put (g:Gh) (a:Addr) (o:Obj):Gh:=fun b=>if b=a then some o else g b
theorem Gh.put_self (g:Gh) (a:Addr) (o:Obj):g.put a o a=some o:=by simp [Gh.put]
theorem Gh.put_ne {g:Gh} {a b:Addr} {o:Obj} (h:b≠a):g.put a o b=g b:=by simp [Gh.put,h]
theorem Gh.le_put {g:Gh} {a:Addr} {o:Obj} (h:g a=none):g.le (g.put a o):=fun b o' e=>by
  unfold Gh.put
  by_cases hb:b=a
  · subst hb;rw [h] at e;exact noneE e
  · rw [if_neg hb];exact e
noncomputable def TupO (vs:List Value) (n:Nat):Obj:={ cls:= .type "tuple",data:= .seq vs.toArray n}
noncomputable def LstO (vs:List Value) (n:Nat):Obj:={ cls:= .type "list",data:= .seq vs.toArray n}
noncomputable def DctO (es:Array DictEntry) (n:Nat):Obj:={ cls:= .type "dict",data:= .dict es n}
noncomputable def isOI (k:Option Int) (v:Value):Bool:=match k with
  | some k=>(match v with
    | .int i _=>k==i
    | _=>false)
  | none=>(match v with
    | .none=>true
    | _=>false)
theorem isOI_some {k:Int} {v:Value} (h:isOI (some k) v=true):∃ t,v= .int k t:=by
  cases v <;> simp [isOI] at h
  exact ⟨_,by rw [h]⟩
theorem isOI_none {v:Value} (h:isOI none v=true):v= .none:=by
  cases v <;> simp [isOI] at h <;> rfl
noncomputable def hashOI:Option Int→Int
  | some k=>hashInt k
  | none=>4238894112
section
variable {prog:Program} {w:World} {A:Around} {E:Value→Shared→Prop} {s:Shared}
theorem args_none_hash (a:Value):argsOk "NoneType.__hash__" ⟨[a],[]⟩:=by unfold argsOk;kernel_rfl
theorem wpAny_pyHash_none {Q:Int→Shared→Prop} (h:Q 4238894112 { s with toks:=s.toks+1}):wpAny (model prog w) A (pyHash .none) Q E s:=by
  unfold pyHash pyHashByItsType
  have hv:[Value.none].any Value.onHeap=false:=rfl
  refine wpAny_bind ?_
  rw [cRoomFor,if_neg (by rw [hv];exact Bool.false_ne_true)];refine wpAny_pure ?_
  have hT:s.TypeIs .none "NoneType":=by first | exact typeIs_none s | rfl | exact rfl
  refine wpAny_bind (wpAny_specialOf hT F.slot_NoneType_hash.lookup ?_)
  show wpAny _ _ (if (some (Value.builtin "NoneType.__hash__")==some Value.none)=true then _ else _) Q E s
  rw [if_neg (by rw [beq_builtin_none];exact Bool.false_ne_true)]
  refine wpAny_bind (wpAny_specialOf hT F.slot_NoneType_hash.lookup ?_)
  show wpAny _ _ (callSpecialIfBoundUnlessNone? .none "__hash__" _ >>= _) Q E s
  refine wpAny_bind (wpAny_callSpecialIfBoundUnlessNone?_slot hT F.slot_NoneType_hash
    (wpAny_call_entry F.slot_NoneType_hash hT F.entry_NoneType_hash
      (show wpAny _ _ (do ret (← mkInt 4238894112)) _ _ s from wpAny_ret_mkInt ?_) (args_none_hash _)))
  show wpAny _ _ (if (decide (-(2:Int) ^ 63≤4238894112) && decide ((4238894112:Int)<2 ^ 63))=true then _ else _) Q E _
  rw [if_pos (by decide)]
  exact wpAny_pure h
theorem eqBool_of_false {u v:Value} {Q:Bool→Shared→Prop} (hne:(u==v)=false) (hnf:(∀ b t,u≠ .float b t))
    (hc:wpAny (model prog w) A (compareOp .Eq u v) (fun r s'=>r= .bool false∧s'=s) E s) (h:Q false s):wpAny (model prog w) A (eqBool u v) Q E s:=by
  unfold eqBool
  refine wpAny_holding ?_
  rw [if_neg (by rw [hne];exact Bool.false_ne_true)]
  have key:wpAny (model prog w) A (richCompare CmpOp.Eq u v >>= truthOfDropped) Q E s:=by
    refine wpAny_bind (wpAny_mono (show wpAny (model prog w) A (richCompare .Eq u v) _ E s from hc) (fun r s' hr=> ?_) fun _ _ e=>e)
    refine x02 hr ?_;(try clear hr);intro hq0 hq1;subst hq0;subst hq1
    exact wpAny_truthy_bool h
  cases u <;> first | exact absurd rfl (hnf _ _) | exact key
noncomputable def oik (prog:Program) (w:World):PySem.KeyKind prog w (Option Int) where
  is:=isOI
  hash:=hashOI
  inj:=fun v a b ha hb=>by
    induction a using Option.casesOn <;> induction b using Option.casesOn <;> cases v <;> simp [isOI] at ha hb
    · rfl
    · rw [ha,hb]
  byValue:=fun k v h=>by
    induction k using Option.casesOn with
    | none=>rw [isOI_none h];rfl
    | some k=>refine x11 (isOI_some h) ?_;intro t hq1;subst hq1;rfl
  pyHash:=fun {A E s k v Q} hv h=>by
    induction k using Option.casesOn with
    | none=>rw [isOI_none hv];exact wpAny_pyHash_none h
    | some k=>refine x11 (isOI_some hv) ?_;intro t hq1;subst hq1;exact wpAny_pyHash_int h
  eqBool:=fun {A E s a b u v Q} hu hv h=>by
    induction a using Option.casesOn with
    | none=>
      have:=isOI_none hu;subst this
      induction b using Option.casesOn with
      | none=>
        have:=isOI_none hv;subst this
        exact wpAny_holding (wpAny_bind (wpAny_rule (wpAny_pure h)))
      | some k=>
        refine x11 (isOI_some hv) ?_;intro t hq1;subst hq1
        exact eqBool_of_false rfl (by intro _ _ e;cases e) (EqNone.eq_none_int ⟨rfl,rfl⟩) h
    | some k=>
      refine x11 (isOI_some hu) ?_;intro t hq1;subst hq1
      induction b using Option.casesOn with
      | none=>
        have:=isOI_none hv;subst this
        exact eqBool_of_false rfl (by intro _ _ e;cases e) (EqNone.eq_int_none ⟨rfl,rfl⟩) h
      | some k'=>
        refine x11 (isOI_some hv) ?_;intro t' hq1;subst hq1
        refine wpAny_eqBool_int ?_
        have:(k==k')=decide (some k=some k'):=by
          by_cases e:k=k'
          · subst e;simp
          · have: ¬ (some k=some k'):=fun h=>e (Option.some.inj h)
            simp [e]
        rw [this];exact h
  «strs» :=fun k x t v h=>by induction k using Option.casesOn <;> simp [isOI] at h
end
section
variable (prog:Program) (w:World)
noncomputable def DctAt (g:Gh) (a:Addr) (ks:List Int) (vs:List Value):Prop:=
  (a==sysModules)=false∧ks.length=vs.length∧∃ es n,g a=some (DctO es n)∧KeysOf (oik prog w) es∧Pairs (oik prog w) es.toList ((ks.map some).zip vs)∧(ks.map some).Nodup
mutual
inductive Rel (g:Gh):Value→V→Prop
  | none:Rel g .none .none
  | bool (b):Rel g (.bool b) (.bool b)
  | int (i t):Rel g (.int i t) (.int i)
  | bytes {b t l}:b.toList=l→Rel g (.bytes b t) (.bytes l)
  | tup {a n vs ds}:g a=some (TupO vs n)→Rels g vs ds→Rel g (.ref a) (.tup ds)
  | lst {a n vs ds}:g a=some (LstO vs n)→Rels g vs ds→Rel g (.ref a) (.lst ds)
  | dct {a ks vs ds}:DctAt prog w g a ks vs→Rels g vs ds→Rel g (.ref a) (.dct ks ds)
inductive Rels (g:Gh):List Value→List V→Prop
  | nil:Rels g [] []
  | cons {v d vs ds}:Rel g v d→Rels g vs ds→Rels g (v::vs) (d::ds)
end
end
section
variable {prog:Program} {w:World}
theorem DctAt.le {g g':Gh} (h:g.le g') {a ks vs} (x:DctAt prog w g a ks vs):DctAt prog w g' a ks vs:=
  let ⟨h1,h2,es,n,e,r⟩:=x;⟨h1,h2,es,n,h _ _ e,r⟩
theorem Rel.le {g g':Gh} (h:g.le g') {v d} (x:Rel prog w g v d):Rel prog w g' v d:=
  Rel.rec (motive_1:=fun v d _=>Rel prog w g' v d) (motive_2:=fun v d _=>Rels prog w g' v d)
    .none .bool .int .bytes (fun e _ ih=> .tup (h _ _ e) ih) (fun e _ ih=> .lst (h _ _ e) ih) (fun e _ ih=> .dct (e.le h) ih) .nil (fun _ _ a b=> .cons a b) x
theorem Rels.ind {g:Gh} {motive:List Value→List V→Prop} (nil:motive [] []) (cons:∀ {v d vs ds},Rel prog w g v d→Rels prog w g vs ds→motive vs ds→motive (v::vs) (d::ds)) {vs ds} (x:Rels prog w g vs ds):motive vs ds:=
  @Rels.rec prog w g (fun _ _ _=>True) (fun vs ds _=>motive vs ds) trivial (fun _=>trivial) (fun _ _=>trivial) (fun _=>trivial) (fun _ _ _=>trivial) (fun _ _ _=>trivial) (fun _ _ _=>trivial) nil (fun a b _ ih=>cons a b ih) vs ds x
theorem Rels.le {g g':Gh} (h:g.le g') {vs ds} (x:Rels prog w g vs ds):Rels prog w g' vs ds:=x.ind (motive:=fun vs ds=>Rels prog w g' vs ds) .nil fun a _ ih=> .cons (a.le h) ih
theorem Rel.cs {g:Gh} {motive:(v:Value)→(d:V)→Rel prog w g v d→Prop} (none:motive .none .none .none) (bool:∀ b,motive _ _ (.bool b)) (int:∀ i t,motive _ _ (.int i t)) (bytes:∀ {b t l} (h:Array.toList b=l),motive _ _ (.bytes (t:=t) h))
  (tup:∀ {a n vs ds} (h:g a=some (TupO vs n)) (q:Rels prog w g vs ds),motive _ _ (.tup h q)) (lst:∀ {a n vs ds} (h:g a=some (LstO vs n)) (q:Rels prog w g vs ds),motive _ _ (.lst h q)) (dct:∀ {a ks vs ds} (h:DctAt prog w g a ks vs) (q:Rels prog w g vs ds),motive _ _ (.dct h q)) {v:Value} {d:V} (r:Rel prog w g v d):motive v d r:=
  @Rel.casesOn prog w g motive v d r none bool int bytes tup lst dct
theorem Rels.cs {g:Gh} {motive:(v:List Value)→(d:List V)→Rels prog w g v d→Prop} (nil:motive [] [] .nil) (cons:∀ {v d vs ds} (h:Rel prog w g v d) (q:Rels prog w g vs ds),motive _ _ (.cons h q)) {v:List Value} {d:List V} (r:Rels prog w g v d):motive v d r:=
  @Rels.casesOn prog w g motive v d r nil cons
noncomputable def RelI (prog:Program) (w:World) (g:Gh) (v:Value):V→Prop
  | .none=>v= .none
  | .bool b=>v= .bool b
  | .int i=>∃ t,v= .int i t
  | .bytes l=>∃ b t,v= .bytes b t∧b.toList=l
  | .tup ds=>∃ a n vs,v= .ref a∧g a=some (TupO vs n)∧Rels prog w g vs ds
  | .lst ds=>∃ a n vs,v= .ref a∧g a=some (LstO vs n)∧Rels prog w g vs ds
  | .dct ks ds=>∃ a vs,v= .ref a∧DctAt prog w g a ks vs∧Rels prog w g vs ds
noncomputable def isNV:V→Bool
  | .none=>true
  | _=>false
theorem Rel.inv {g:Gh} {v d} (r:Rel prog w g v d):RelI prog w g v d:=
  @Rel.casesOn prog w g (fun v d _=>RelI prog w g v d) v d r rfl (fun _=>rfl) (fun _ t=>⟨t,rfl⟩) (fun h=>⟨_,_,rfl,h⟩) (fun h q=>⟨_,_,_,rfl,h,q⟩) (fun h q=>⟨_,_,_,rfl,h,q⟩) (fun h q=>⟨_,_,rfl,h,q⟩)
theorem Rel.int_inv {g:Gh} {v i} (r:Rel prog w g v (.int i)):∃ t,v= .int i t:=r.inv
theorem Rel.isNone {g:Gh} {v d} (r:Rel prog w g v d):(v==Value.none)=isNV d:=
  @Rel.casesOn prog w g (fun v d _=>(v==Value.none)=isNV d) v d r rfl (fun _=>rfl) (fun _ _=>rfl) (fun _=>rfl) (fun _ _=>rfl) (fun _ _=>rfl) (fun _ _=>rfl)
theorem i2V_inv {f:Int→Int→Option V} {x y d:V} (e:i2V f x y=some d):∃ a b,x= .int a∧y= .int b∧f a b=some d:=by
  induction x using V.cs with
  | int a=>induction y using V.cs with
    | int b=>exact ⟨a,b,rfl,rfl,e⟩
    | _=>exact noneE e
  | _=>exact noneE e
theorem i2B_inv {f:Int→Int→Bool} {x y:V} {d:Bool} (e:i2B f x y=some d):∃ a b,x= .int a∧y= .int b∧f a b=d:=by
  induction x using V.cs with
  | int a=>induction y using V.cs with
    | int b=>exact ⟨a,b,rfl,rfl,Option.some.inj e⟩
    | _=>exact noneE e
  | _=>exact noneE e
theorem isV_inv {t:Bool} {x y:V} {d:Bool} (e:isV t x y=some d):y= .none∧(if isNV x then t else !t)=d:=by
  induction y using V.cs with
  | none=>exact ⟨rfl,Option.some.inj ((congrArg some (by induction x using V.cs <;> rfl)).trans e)⟩
  | _=>exact noneE e
theorem addV_inv {x y d:V} (e:addV x y=some d):(∃ a b,x= .int a∧y= .int b∧d= .int (a+b))∨(∃ a b,x= .bytes a∧y= .bytes b∧a.length+b.length≤lim∧d= .bytes (a++b))∨
    ∃ a b,x= .tup a∧y= .tup b∧a.length+b.length≤lim∧d= .tup (a++b):=by
  induction x using V.cs with
  | int a=>induction y using V.cs with
    | int b=>exact .inl ⟨a,b,rfl,rfl,(Option.some.inj e).symm⟩
    | _=>exact noneE e
  | bytes a=>induction y using V.cs with
    | bytes b=>exact .inr (.inl ⟨a,b,rfl,rfl,(ite_some e).1,(ite_some e).2.symm⟩)
    | _=>exact noneE e
  | tup a=>induction y using V.cs with
    | tup b=>exact .inr (.inr ⟨a,b,rfl,rfl,(ite_some e).1,(ite_some e).2.symm⟩)
    | _=>exact noneE e
  | _=>exact noneE e
theorem binV_inv {op:Operator} {x y d:V} (e:binV op x y=some d):op= .Add∨∃ a b,x= .int a∧y= .int b:=by
  have k:∀ {f},i2V f x y=some d→∃ a b,x= .int a∧y= .int b:=fun e=>let ⟨a,b,h1,h2,_⟩:=i2V_inv e;⟨a,b,h1,h2⟩
  induction op using Operator.casesOn with
  | Add=>exact .inl rfl
  | MatMult=>exact noneE e
  | Div=>exact noneE e
  | BitXor=>exact noneE e
  | _=>exact .inr (k e)
theorem Rels.length {g:Gh} {vs ds} (x:Rels prog w g vs ds):vs.length=ds.length:=x.ind (motive:=fun vs ds=>vs.length=ds.length) rfl fun _ _ ih=>congrArg (· +1) ih
theorem Rels.append {g:Gh} {vs ds vs' ds'} (x:Rels prog w g vs ds) (y:Rels prog w g vs' ds'):Rels prog w g (vs++vs') (ds++ds'):=x.ind (motive:=fun vs ds=>Rels prog w g (vs++vs') (ds++ds')) y fun a _ ih=> .cons a ih
theorem Rels.take {g:Gh} {vs ds} (n:Nat) (x:Rels prog w g vs ds):Rels prog w g (vs.take n) (ds.take n):=
  x.ind (motive:=fun vs ds=>∀ n,Rels prog w g (vs.take n) (ds.take n)) (fun n=>by rw [List.take_nil,List.take_nil];exact .nil) (fun a _ ih n=>Nat.casesAuxOn (motive:=fun n=>Rels prog w g (List.take n (_::_)) (List.take n (_::_))) n .nil fun n=> .cons a (ih n)) n
theorem Rels.drop {g:Gh} {vs ds} (n:Nat) (x:Rels prog w g vs ds):Rels prog w g (vs.drop n) (ds.drop n):=
  x.ind (motive:=fun vs ds=>∀ n,Rels prog w g (vs.drop n) (ds.drop n)) (fun n=>by rw [List.drop_nil,List.drop_nil];exact .nil) (fun a b ih n=>Nat.casesAuxOn (motive:=fun n=>Rels prog w g (List.drop n (_::_)) (List.drop n (_::_))) n (.cons a b) ih) n
theorem Rels.get {g:Gh} {vs ds} (n:Nat) {d} (x:Rels prog w g vs ds):ds[n]? =some d→∃ v,vs[n]? =some v∧Rel prog w g v d:=
  x.ind (motive:=fun vs ds=>∀ n:Nat,ds[n]? =some d→∃ v,vs[n]? =some v∧Rel prog w g v d) (fun _ e=>noneE (List.getElem?_nil.symm.trans e))
    (fun {v d' vs ds} a _ ih n=>Nat.casesAuxOn (motive:=fun n=>(d'::ds)[n]? =some d→∃ u,(v::vs)[n]? =some u∧Rel prog w g u d) n (fun e=>⟨v,rfl,Option.some.inj e ▸ a⟩) fun n e=>ih n e) n
theorem Rels.set {g:Gh} {vs ds} (n:Nat) {v d} (x:Rels prog w g vs ds) (y:Rel prog w g v d):Rels prog w g (vs.set n v) (ds.set n d):=
  x.ind (motive:=fun vs ds=>∀ n,Rels prog w g (vs.set n v) (ds.set n d)) (fun _=> .nil) (fun a b ih n=>Nat.casesAuxOn (motive:=fun n=>Rels prog w g (List.set (_::_) n v) (List.set (_::_) n d)) n (.cons y b) fun n=> .cons a (ih n)) n
theorem Rels.reverse {g:Gh} {vs ds} (x:Rels prog w g vs ds):Rels prog w g vs.reverse ds.reverse:=
  x.ind (motive:=fun vs ds=>Rels prog w g vs.reverse ds.reverse) .nil fun a _ ih=>by rw [List.reverse_cons,List.reverse_cons];exact ih.append (.cons a .nil)
theorem Rels.flatten {g:Gh} {vs ds} (x:Rels prog w g vs ds):∀ k,Rels prog w g (List.replicate k vs).flatten (List.replicate k ds).flatten
  | 0=> .nil
  | k+1=>by simp only [List.replicate_succ,List.flatten_cons];exact x.append (x.flatten k)
theorem Rels.ints {g:Gh} {vs ds ns} (x:Rels prog w g vs ds):intsOf ds=some ns→IntsAre vs ns:=
  x.ind (motive:=fun vs ds=>∀ ns,intsOf ds=some ns→IntsAre vs ns) (fun _ e=>Option.some.inj e ▸ .nil) (fun {v d vs ds} a _ ih ns=>by
    induction a using Rel.cs with
    | int i t=>intro e;refine x12 (Option.map_eq_some_iff.mp e) ?_;intro r e1 e2;exact e2 ▸ .cons _ _ (ih r e1)
    | _=>exact noneE) ns
end
noncomputable def Heap.Dead (h:Heap) (a:Addr):Prop:=h.get? a=none
structure ExtW (W:Addr→Prop) (g:Gh) (h:Heap) (g':Gh) (h':Heap):Prop where
  gg:g.le g'
  gh:g'.inH h'
  hh:∀ a o,h.get? a=some o→ ¬ W a→h'.get? a=some o
  priv:∀ a o,h.get? a=some o→g a=none→ ¬ W a→g' a=none
  alive:∀ a,h'.get? a=none→h.get? a=none
noncomputable abbrev Ext:=ExtW fun _=>False
theorem Ext.hk {g:Gh} {h:Heap} {g':Gh} {h':Heap} (x:Ext g h g' h'):∀ a o,h.get? a=some o→h'.get? a=some o:=fun a o e=>x.hh a o e fun f=>f
theorem dead_of_keep {h h':Heap} (k:∀ a o,h.get? a=some o→h'.get? a=some o):∀ a,h'.get? a=none→h.get? a=none:=fun a e=>by
  cases q:h.get? a with
  | none=>rfl
  | some o=>rw [k a o q] at e;exact noneE' e
theorem dead_end (h:Heap) {a:Addr} (l:h.objs.size≤a):h.get? a=none:=by
  cases e:h.get? a with
  | none=>rfl
  | some o=>exact absurd (Heap.lt_size e) (Nat.not_lt.mpr l)
theorem live_ne {h:Heap} {a b:Addr} {o:Obj} (x:h.get? a=some o) (y:h.get? b=none):a≠b:=by
  rintro rfl;rw [x] at y;exact noneE' y
theorem ExtW.refl {W:Addr→Prop} {g:Gh} {h:Heap} (x:g.inH h):ExtW W g h g h:=⟨.refl _,x,fun _ _ e _=>e,fun _ _ _ e _=>e,fun _ e=>e⟩
theorem ExtW.wide {W W':Addr→Prop} {g g':Gh} {h h':Heap} (x:ExtW W g h g' h') (i:∀ a,W a→W' a):ExtW W' g h g' h':=
  ⟨x.gg,x.gh,fun a o e n=>x.hh a o e fun q=>n (i a q),fun a o l e n=>x.priv a o l e fun q=>n (i a q),x.alive⟩
theorem ExtW.then {W V:Addr→Prop} {g g' g'':Gh} {h h' h'':Heap} (x:ExtW W g h g' h') (y:ExtW V g' h' g'' h'') (i:∀ a,V a→W a∨h.get? a=none):ExtW W g h g'' h'':=
  ⟨x.gg.trans y.gg,y.gh,fun a o e n=>y.hh a o (x.hh a o e n) fun q=>(i a q).elim n fun l=>(by rw [e] at l;exact noneE' l),
    fun a o l e n=>y.priv a o (x.hh a o l n) (x.priv a o l e n) fun q=>(i a q).elim n fun l'=>(by rw [l] at l';exact noneE' l'),fun a e=>x.alive a (y.alive a e)⟩
theorem Gh.fresh {g:Gh} {h:Heap} (x:g.inH h) {a:Addr} (l:h.get? a=none):g a=none:=by
  cases e:g a with
  | none=>rfl
  | some o=>rw [x a o e] at l;exact noneE' l
theorem Ext.push {g:Gh} {h:Heap} (x:g.inH h) (o:Obj):Ext g h g (h.push o):=
  ⟨.refl _,fun a o' e=>Heap.get?_push_of_some _ (x a o' e),fun a o' e _=>Heap.get?_push_of_some _ e,fun _ _ _ e _=>e,dead_of_keep fun _ _ e=>Heap.get?_push_of_some _ e⟩
theorem Ext.freeze {g:Gh} {h h':Heap} (x:g.inH h) (hk:∀ a o,h.get? a=some o→h'.get? a=some o) {a:Addr} {o:Obj} (l:h.get? a=none) (e:h'.get? a=some o):
    Ext g h (g.put a o) h':=
  ⟨Gh.le_put (Gh.fresh x l),fun b o' q=>by
      unfold Gh.put at q
      by_cases hb:b=a
      · subst hb;rw [if_pos rfl] at q;induction q using someE;exact e
      · rw [if_neg hb] at q;exact hk _ _ (x _ _ q),
    fun _ _ e _=>hk _ _ e,fun b o' l' q _=>by rw [Gh.put_ne (live_ne l' l)];exact q,dead_of_keep hk⟩
theorem Ext.pushF {g:Gh} {h:Heap} (x:g.inH h) {o:Obj} (ho:o.isFreed=false):Ext g h (g.put h.objs.size o) (h.push o):=
  Ext.freeze x (fun _ _ e=>Heap.get?_push_of_some _ e) (dead_end h (Nat.le_refl _)) (Heap.get?_push_size _ ho)
inductive Loc where
  | loc (n:Str)
  | cell (n:Str)
  | fld (n:Str)
  deriving DecidableEq
structure Cx where
  sc:Scope
  places:List Loc
  obj:Option (Loc×Bool)
  own:Bool
structure Act where
  gE:Gh
  hE:Heap
  W:Addr→Prop
  gens:Array GenState
  os:OsState
  dx:Addr
  ax:Addr
noncomputable def cellVal (h:Heap) (c:Addr):Option Value:=match h.get? c with
  | some o=>(match o.data with | .cell v=>v | _=>none)
  | none=>none
noncomputable def fetch (h:Heap) (env:Env) (dx:Addr):Loc→Option Value
  | .loc n=>h.nsMap env.locals n
  | .cell n=>match env.cells.lookup n with
    | some c=>cellVal h c
    | none=>none
  | .fld n=>h.nsMap dx n
structure Top0 where
  prog:Program
  w:World
  cls:Addr
  gB:Gh
  mg:Str→Option Value
  mb:Str→Option Value
  g:∀ h,gB.inH h→h.Ns mainGlobals mg
  b:∀ h,gB.inH h→h.Ns builtinsNs mb
  lim:∀ h,gB.inH h→h.NoLimit
  bb:∀ x:Str,x≠"__name__"→mb x=bootBuiltins x
  sys:∀ h,gB.inH h→sysModules<h.objs.size
theorem nsMap_keep {h h':Heap} {a:Addr} (n:h.isNs a=true) (k:∀ o,h.get? a=some o→h'.get? a=some o):h'.isNs a=true∧h'.nsMap a=h.nsMap a:=by
  unfold Heap.isNs at n
  cases e:h.get? a with
  | none=>rw [e] at n;exact ftE n
  | some o=>
    have e':=k o e
    rw [e] at n
    refine ⟨?_,?_⟩
    · unfold Heap.isNs;rw [e'];exact n
    · funext x;unfold Heap.nsMap;rw [e,e']
noncomputable def instNames:List Str:=["most","limit","found","parts","value","is_begun"]
noncomputable def IsD (G:Top0) (b:Bool) (h:Heap) (a:Addr):Prop:=h.isNs a=true∧(b=false→∃ u v,h.DictOf (PySem.strKind G.prog G.w) a [("cells",u),("mixed",v)])∧(b=true→(∃ m,h.Ns1 a m)∧∀ n,n ∉ instNames→h.nsMap a n=none)
theorem IsD.keep {G:Top0} {b:Bool} {h h':Heap} {a:Addr} (x:IsD G b h a) (k:∀ o,h.get? a=some o→h'.get? a=some o):IsD G b h' a:=
  ⟨(nsMap_keep x.1 k).1,fun hb=>let ⟨u,v,o,es,n,e,r⟩:=x.2.1 hb;⟨u,v,o,es,n,k _ e,r⟩,fun hb=>⟨let ⟨m,y⟩:=(x.2.2 hb).1;⟨m,y.at k⟩,fun n hn=>by rw [(nsMap_keep x.1 k).2];exact (x.2.2 hb).2 n hn⟩⟩
section
variable (G:Top0)
noncomputable def SlotOk (act:Act) (g:Gh) (h:Heap) (v? :Option Value):Slot→Prop
  | .unset=>True
  | .val d=>∃ v,v? =some v∧Rel G.prog G.w g v d
  | .own l=>∃ a vs n,v? =some (.ref a)∧h.get? a=some (LstO vs n)∧g a=none∧(act.hE.get? a=none∨act.W a)∧Rels G.prog G.w g vs l
structure Inv (cx:Cx) (act:Act) (env:Env) (g:Gh) (s:Shared) (st:St):Prop where
  gens:s.gens=act.gens
  os:s.os=act.os
  base:G.gB.le act.gE
  ext:ExtW act.W act.gE act.hE g s.heap
  locL:act.hE.get? env.locals=none
  locG:g env.locals=none
  locN:s.heap.isNs env.locals=true
  len:st.length=cx.places.length
  cell:∀ n,Loc.cell n∈cx.places→∃ c v,env.cells.lookup n=some c∧s.heap.IsCell c v∧g c=none
  slots:∀ (i:Nat) (p:Loc) (sl:Slot),cx.places[i]? =some p→st[i]? =some sl→SlotOk G act g s.heap (fetch s.heap env act.dx p) sl
  apart:∀ (i j:Nat) (p q:Loc) (l l':List V),i≠j→cx.places[i]? =some p→cx.places[j]? =some q→st[i]? =some (.own l)→st[j]? =some (.own l')→fetch s.heap env act.dx p≠fetch s.heap env act.dx q
  obj:∀ (p:Loc) (b:Bool),cx.obj=some (p,b)→(IsD G b s.heap act.dx∧g act.dx=none∧act.dx≠env.locals∧(act.hE.get? act.dx=none∨act.W act.dx))∧
    fetch s.heap env act.dx p=some (.ref act.ax)∧(if b then g act.ax=some (instObj G.cls act.dx) else act.ax=act.dx)∧
    (∀ n,p=Loc.cell n→∃ c v,env.cells.lookup n=some c∧s.heap.IsCell c v∧g c=none)
  nofld:cx.obj=none→∀ n,Loc.fld n ∉ cx.places
  ownC:cx.own=true→∀ n c,env.cells.lookup n=some c→act.hE.get? c=none
end
section
variable {G:Top0} {cx:Cx} {act:Act} {env:Env} {g g':Gh} {s s':Shared} {st:St}
theorem Inv.gh (I:Inv G cx act env g s st):g.inH s.heap:=I.ext.gh
theorem cellVal_of {h:Heap} {c:Addr} {v:Option Value} (x:h.IsCell c v):cellVal h c=v:=by
  refine x12 x ?_;(try clear x);intro o e d
  unfold cellVal;rw [e];dsimp only;rw [d]
theorem SlotOk.ext {v? :Option Value} {h h':Heap} (x:Ext g h g' h'):∀ {sl},SlotOk G act g h v? sl→SlotOk G act g' h' v? sl
  | .unset,_=>trivial
  | .val _,⟨v,e,r⟩=>⟨v,e,r.le x.gg⟩
  | .own _,⟨a,vs,n,e,q,f,b,r⟩=>⟨a,vs,n,e,x.hk _ _ q,x.priv _ _ q f (fun f=>f),b,r.le x.gg⟩
theorem Inv.fetch_keep (I:Inv G cx act env g s st) {h':Heap} (k:∀ a o,s.heap.get? a=some o→h'.get? a=some o) {p:Loc} (hp:p∈cx.places):fetch h' env act.dx p=fetch s.heap env act.dx p:=by
  cases p with
  | loc n=>exact congrFun (nsMap_keep I.locN fun o e=>k _ _ e).2 n
  | cell n=>
    obtain ⟨c,v,e,⟨o,ho,hd⟩,_⟩:=I.cell n hp
    show (match env.cells.lookup n with | some c=>cellVal h' c | none=>none)=(match env.cells.lookup n with | some c=>cellVal s.heap c | none=>none)
    rw [e]
    exact (cellVal_of ⟨o,k _ _ ho,hd⟩).trans (cellVal_of ⟨o,ho,hd⟩).symm
  | fld n=>
    cases ho:cx.obj with
    | none=>exact absurd hp (I.nofld ho n)
    | some pb=>
      obtain ⟨p,b⟩:=pb
      exact congrFun (nsMap_keep (I.obj p b ho).1.1.1 fun o e=>k _ _ e).2 n
theorem Inv.move (I:Inv G cx act env g s st) (x:Ext g s.heap g' s'.heap) (hg:s'.gens=s.gens) (ho:s'.os=s.os):Inv G cx act env g' s' st where
  gens:=hg.trans I.gens
  os:=ho.trans I.os
  base:=I.base
  ext:=I.ext.then x fun _ f=>f.elim
  locL:=I.locL
  locG:=let ⟨_,_,_,e,_⟩:=Heap.Ns.of_isNs I.locN;x.priv _ _ e I.locG fun f=>f
  locN:=(nsMap_keep I.locN fun o e=>x.hk _ _ e).1
  len:=I.len
  cell:=fun n hn=>by
    refine x23 (I.cell n hn) ?_;intro c v e q f
    exact ⟨c,v,e,q.keeps x.hk,let ⟨_,h,_⟩:=q;x.priv _ _ h f fun f=>f⟩
  slots:=fun i p sl hp hs=>by
    rw [I.fetch_keep x.hk (List.mem_of_getElem? hp)]
    exact (I.slots i p sl hp hs).ext x
  apart:=fun i j p q l l' hij hp hq hl hl'=>by
    rw [I.fetch_keep x.hk (List.mem_of_getElem? hp),I.fetch_keep x.hk (List.mem_of_getElem? hq)]
    exact I.apart i j p q l l' hij hp hq hl hl'
  obj:=fun p b hp=>by
    obtain ⟨⟨h1,h2,h3,h4⟩,h5,h6,h7⟩:=I.obj p b hp
    refine ⟨⟨h1.keep fun o e=>x.hk _ _ e,(let ⟨_,_,_,e,_⟩:=Heap.Ns.of_isNs h1.1;x.priv _ _ e h2 fun f=>f),h3,h4⟩,?_,?_,fun n hn=> ?_⟩
    · rw [← h5]
      cases p with
      | loc n=>exact congrFun (nsMap_keep I.locN fun o e=>x.hk _ _ e).2 n
      | cell n=>
        obtain ⟨c,v,e,⟨o,ho,hd⟩,_⟩:=h7 n rfl
        show (match env.cells.lookup n with | some c=>cellVal s'.heap c | none=>none)=(match env.cells.lookup n with | some c=>cellVal s.heap c | none=>none)
        rw [e]
        exact (cellVal_of ⟨o,x.hk _ _ ho,hd⟩).trans (cellVal_of ⟨o,ho,hd⟩).symm
      | fld n=>exact congrFun (nsMap_keep h1.1 fun o e=>x.hk _ _ e).2 n
    · induction b using Bool.casesOn
      · exact h6
      · exact x.gg _ _ h6
    · refine x23 (h7 n hn) ?_;intro c v e q f
      exact ⟨c,v,e,q.keeps x.hk,let ⟨_,h,_⟩:=q;x.priv _ _ h f fun f=>f⟩
  nofld:=I.nofld
  ownC:=I.ownC
theorem Inv.toks (I:Inv G cx act env g s st) (t:Nat):Inv G cx act env g { s with toks:=t} st:=
  I.move (s':={ s with toks:=t}) (ExtW.refl I.gh) rfl rfl
end
section
variable {G:Top0} {cx:Cx} {act:Act} {env:Env} {g g' g'':Gh} {s s' s'':Shared} {st st' st'':St}
noncomputable def Touch (cx:Cx) (act:Act) (env:Env) (s:Shared) (st:St) (a:Addr):Prop:=
  ((cx.obj.isSome=true)∧a=act.dx)∨∃ (i:Nat) (p:Loc) (l:List V),cx.places[i]? =some p∧st[i]? =some (.own l)∧fetch s.heap env act.dx p=some (.ref a)
structure Step (G:Top0) (cx:Cx) (act:Act) (env:Env) (g:Gh) (s:Shared) (st:St) (g':Gh) (s':Shared) (st':St):Prop where
  inv:Inv G cx act env g' s' st'
  ext:ExtW (Touch cx act env s st) g s.heap g' s'.heap
  touch:∀ a,Touch cx act env s' st' a→Touch cx act env s st a∨s.heap.get? a=none
theorem Step.refl (I:Inv G cx act env g s st):Step G cx act env g s st g s st:=⟨I,.refl I.gh,fun _ h=> .inl h⟩
theorem Step.trans (x:Step G cx act env g s st g' s' st') (y:Step G cx act env g' s' st' g'' s'' st''):Step G cx act env g s st g'' s'' st'':=
  ⟨y.inv,x.ext.then y.ext x.touch,fun a h=>(y.touch a h).elim (x.touch a) fun l=> .inr (x.ext.alive a l)⟩
theorem Step.gg (x:Step G cx act env g s st g' s' st'):g.le g':=x.ext.gg
theorem Inv.step (I:Inv G cx act env g s st) (x:Ext g s.heap g' s'.heap) (hg:s'.gens=s.gens) (ho:s'.os=s.os):Step G cx act env g s st g' s' st:=
  ⟨I.move x hg ho,x.wide fun _ f=>f.elim,fun a h=>by
    refine .inl (h.imp id fun ⟨i,p,l,hp,hl,e⟩=>⟨i,p,l,hp,hl,?_⟩)
    rw [← e];exact (I.fetch_keep x.hk (List.mem_of_getElem? hp)).symm⟩
theorem Inv.stepT (I:Inv G cx act env g s st) (t:Nat):Step G cx act env g s st g { s with toks:=t} st:=I.step (s':={ s with toks:=t}) (.refl I.gh) rfl rfl
end
structure Spare (cx:Cx) (act:Act) (env:Env) (g:Gh) (s:Shared) (st:St) (d:Addr):Prop where
  live:∃ o,s.heap.get? d=some o
  gh:g d=none
  nt: ¬ Touch cx act env s st d
  nL:d≠env.locals
  nC:∀ n c,(Loc.cell n∈cx.places∨∃ b,cx.obj=some (.cell n,b))→env.cells.lookup n=some c→c≠d
  ab:act.hE.get? d=none
structure SStep (G:Top0) (cx:Cx) (act:Act) (env:Env) (g:Gh) (s:Shared) (st:St) (g':Gh) (s':Shared) (st':St):Prop where
  le:g.le g'
  inv:Inv G cx act env g' s' st'
  sp:∀ d,Spare cx act env g s st d→Spare cx act env g' s' st' d∧s'.heap.get? d=s.heap.get? d
structure Ok (N:Nat) (cx:Cx) (A:Around) (env:Env):Prop where
  sc:env.scope=cx.sc
  kind:cx.sc.kind= .function
  glob:env.globals=mainGlobals
  bi:env.builtins=builtinsNs
  handled:A.handled=none
  depth:A.depth+N<recursionLimit
  units:A.units+20*N+20<cLine
  nodup:cx.places.Nodup
  objp:∀ p b,cx.obj=some (p,b)→p ∉ cx.places
  apartC:env.cells.Pairwise fun x y=>x.2≠y.2
section
variable (G:Top0) (N:Nat) (cx:Cx)
noncomputable def SemE (e:Expr) (f:EF):Prop:=∀ ⦃A env act g s st d st'⦄ ⦃Q E:Value→Shared→Prop⦄,Ok N cx A env→Inv G cx act env g s st→f st=some (d,st')→
  (∀ v g' s',Step G cx act env g s st g' s' st'→Rel G.prog G.w g' v d→Q v s')→wpAny (model G.prog G.w) A (eval e env) Q E s
noncomputable def SemT (e:Expr) (f:TF):Prop:=∀ ⦃A env act g s st b st'⦄ ⦃Q:Bool→Shared→Prop⦄ ⦃E:Value→Shared→Prop⦄,Ok N cx A env→Inv G cx act env g s st→f st=some (b,st')→
  (∀ g' s',Step G cx act env g s st g' s' st'→Q b s')→wpAny (model G.prog G.w) A (isTrue e env (eval e env)) Q E s
structure NewL (G:Top0) (cx:Cx) (act:Act) (env:Env) (g:Gh) (s:Shared) (st:St) (a:Addr) (l:List V) (g':Gh) (s':Shared) (st':St):Prop where
  step:Step G cx act env g s st g' s' st'
  fresh:s.heap.get? a=none
  above:act.hE.get? a=none
  at_:∃ vs n,s'.heap.get? a=some (LstO vs n)∧Rels G.prog G.w g' vs l
  priv:g' a=none
  mine: ¬ Touch cx act env s' st' a
  notL:a≠env.locals
noncomputable def SemL (e:Expr) (f:LF):Prop:=∀ ⦃A env act g s st l st'⦄ ⦃Q E:Value→Shared→Prop⦄,Ok N cx A env→Inv G cx act env g s st→f st=some (l,st')→
  (∀ a g' s',NewL G cx act env g s st a l g' s' st'→Q (.ref a) s')→wpAny (model G.prog G.w) A (eval e env) Q E s
noncomputable def FlRel (g:Gh):Flow→Fl→Prop
  | .next,.next=>True
  | .ret v,.ret d=>Rel G.prog G.w g v d
  | _,_=>False
noncomputable def SemS (c:Stmt) (f:SF):Prop:=∀ ⦃A env act g s st b st'⦄ ⦃Q:Flow→Shared→Prop⦄ ⦃E:Value→Shared→Prop⦄,Ok N cx A env→Inv G cx act env g s st→f st=some (b,st')→
  (∀ fl g' s',SStep G cx act env g s st g' s' st'→FlRel G g' fl b→Q fl s')→wpAny (model G.prog G.w) A (exec c env) Q E s
noncomputable def SemB (c:List Stmt) (f:SF):Prop:=∀ ⦃A env act g s st b st'⦄ ⦃Q:Flow→Shared→Prop⦄ ⦃E:Value→Shared→Prop⦄,Ok N cx A env→Inv G cx act env g s st→f st=some (b,st')→
  (∀ fl g' s',SStep G cx act env g s st g' s' st'→FlRel G g' fl b→Q fl s')→wpAny (model G.prog G.w) A (execs c env) Q E s
noncomputable def SemW (c:List Stmt) (f:SF):Prop:=∀ ⦃A env act g s st b st'⦄ ⦃Q:Flow→Shared→Prop⦄ ⦃E:Value→Shared→Prop⦄,Ok N cx A env→Inv G cx act env g s st→f st=some (b,st')→
  (∀ fl g' s',ExtW act.W act.gE act.hE g' s'.heap→s'.gens=act.gens→s'.os=act.os→FlRel G g' fl b→Q fl s')→wpAny (model G.prog G.w) A (execs c env) Q E s
end
end Mine
end
section
open PySem PySem.Calls PyProof.Rows PySem.W
set_option maxRecDepth 10000
namespace Mine
section
variable {G:Top0} {N:Nat} {cx:Cx} {act:Act} {env:Env} {g g':Gh} {s s':Shared} {st st':St} {A:Around}
theorem ns_dict {h:Heap} {a:Addr} (n:h.isNs a=true):∃ o es k,h.get? a=some o∧o.data= .dict es k:=by
  refine x33 (Heap.Ns.of_isNs n) ?_;intro o es k e d _
  exact ⟨o,es,k,e,d⟩
theorem ns_ne_lst {h:Heap} {a b:Addr} {vs n} (x:h.isNs a=true) (y:h.get? b=some (LstO vs n)):a≠b:=by
  rintro rfl
  refine x32 (ns_dict x) ?_;intro o es k e d
  rw [e] at y;cases y;cases d
theorem cell_ne_lst {h:Heap} {a b:Addr} {v vs n} (x:h.IsCell a v) (y:h.get? b=some (LstO vs n)):a≠b:=by
  rintro rfl
  refine x12 x ?_;(try clear x);intro o e d
  rw [e] at y;cases y;cases d
theorem cell_ne_ns {h:Heap} {a b:Addr} {v} (x:h.IsCell a v) (y:h.isNs b=true):a≠b:=by
  rintro rfl
  refine x12 x ?_;(try clear x);intro o e d
  refine x32 (ns_dict y) ?_;intro o' es k e' d'
  rw [e] at e';induction e' using someE;rw [d] at d';cases d'
theorem get_set {α:Type} {l:List α} {i j:Nat} {x y:α} (h:(l.set i x)[j]? =some y):(i=j∧y=x∧i<l.length)∨(i≠j∧l[j]? =some y):=by
  rw [List.getElem?_set] at h
  by_cases e:i=j
  · subst e
    rw [if_pos rfl] at h
    by_cases l':i<l.length
    · rw [if_pos l'] at h;induction h using someE;exact .inl ⟨rfl,rfl,l'⟩
    · rw [if_neg l'] at h;exact noneE h
  · rw [if_neg e] at h;exact .inr ⟨e,h⟩
theorem Inv.freeze (I:Inv G cx act env g s st) {i:Nat} {p:Loc} {l:List V} (hp:cx.places[i]? =some p) (hl:st[i]? =some (.own l)):
    ∃ a vs n,fetch s.heap env act.dx p=some (.ref a)∧g a=none∧s.heap.get? a=some (LstO vs n)∧Rels G.prog G.w g vs l∧Step G cx act env g s st (g.put a (LstO vs n)) s (st.set i (.val (.lst l))):=by
  refine x35 (I.slots i p _ hp hl) ?_;intro a vs n e ho hg hb hr
  refine ⟨a,vs,n,e,hg,ho,hr,?_⟩
  have le:=Gh.le_put (o:=LstO vs n) hg
  have gh:(g.put a (LstO vs n)).inH s.heap:=fun b o q=>by
    unfold Gh.put at q
    by_cases hb:b=a
    · subst hb;rw [if_pos rfl] at q;induction q using someE;exact ho
    · rw [if_neg hb] at q;exact I.gh _ _ q
  have hT:Touch cx act env s st a:= .inr ⟨i,p,l,hp,hl,e⟩
  refine ⟨⟨I.gens,I.os,I.base,⟨I.ext.gg.trans le,gh,I.ext.hh,fun b ob hlt hn hW=> ?_,I.ext.alive⟩,I.locL,?_,I.locN,?_,fun m hm=> ?_,fun j q sl hq hs=> ?_,fun j k q q' l1 l2 hjk hq hq' h1 h2=> ?_,fun q b hq=> ?_,I.nofld,I.ownC⟩,⟨le,gh,fun _ _ e _=>e,fun b _ _ hn hW=> ?_,fun _ e=>e⟩,fun b hb'=> ?_⟩
  · rw [Gh.put_ne]
    · exact I.ext.priv b ob hlt hn hW
    · rintro rfl
      exact hb.elim (fun l=>by rw [hlt] at l;exact noneE' l) hW
  · rw [Gh.put_ne (ns_ne_lst I.locN ho)];exact I.locG
  · rw [List.length_set];exact I.len
  · refine x23 (I.cell m hm) ?_;intro c v e1 e2 e3
    exact ⟨c,v,e1,e2,by rw [Gh.put_ne (cell_ne_lst e2 ho)];exact e3⟩
  · rcases get_set hs with ⟨rfl,rfl,_⟩ | ⟨hne,hs⟩
    · have:=hp.symm.trans hq
      induction this using someE
      exact ⟨_,e,.lst (Gh.put_self ..) (hr.le le)⟩
    · have:=I.slots j q sl hq hs
      induction sl using Slot.casesOn with
      | unset=>trivial
      | val d=>refine x12 this ?_;(try clear this);intro v e1 r;exact ⟨v,e1,r.le le⟩
      | own l'=>
        refine x35 this ?_;(try clear this);intro b ws k e1 e2 e3 e4 e5
        refine ⟨b,ws,k,e1,e2,?_,e4,e5.le le⟩
        rw [Gh.put_ne]
        · exact e3
        · rintro rfl
          exact I.apart i j p q l l' hne hp hq hl hs (e.trans e1.symm)
  · rcases get_set h1 with ⟨rfl,h1,_⟩ | ⟨_,h1⟩
    · cases h1
    · rcases get_set h2 with ⟨rfl,h2,_⟩ | ⟨_,h2⟩
      · cases h2
      · exact I.apart j k q q' l1 l2 hjk hq hq' h1 h2
  · obtain ⟨⟨o1,o2,o3,o4⟩,o5,o6,o7⟩:=I.obj q b hq
    refine ⟨⟨o1,by rw [Gh.put_ne (ns_ne_lst o1.1 ho)];exact o2,o3,o4⟩,o5,?_,fun m hm=> ?_⟩
    · induction b using Bool.casesOn
      · exact o6
      · exact le _ _ o6
    · refine x23 (o7 m hm) ?_;intro c v e1 e2 e3
      exact ⟨c,v,e1,e2,by rw [Gh.put_ne (cell_ne_lst e2 ho)];exact e3⟩
  · rw [Gh.put_ne]
    · exact hn
    · rintro rfl;exact hW hT
  · refine .inl (hb'.imp id fun ⟨j,q,l',hq,hl',e'⟩=> ?_)
    rcases get_set hl' with ⟨rfl,hl',_⟩ | ⟨_,hl'⟩
    · cases hl'
    · exact ⟨j,q,l',hq,hl',e'⟩
theorem Inv.read (I:Inv G cx act env g s st) {i:Nat} {p:Loc} {d:V} (hp:cx.places[i]? =some p) (hf:eVar i st=some (d,st')):
    ∃ v g',fetch s.heap env act.dx p=some v∧Rel G.prog G.w g' v d∧Step G cx act env g s st g' s st':=by
  unfold eVar at hf
  cases hs:st[i]? with
  | none=>rw [hs] at hf;exact noneE hf
  | some sl=>
    rw [hs] at hf
    induction sl using Slot.casesOn with
    | unset=>exact noneE hf
    | val x=>
      induction hf using pairE
      refine x12 (I.slots i p _ hp hs) ?_;intro v e r
      exact ⟨v,g,e,r,.refl I⟩
    | own l=>
      induction hf using pairE
      refine x35 (I.freeze hp hs) ?_;intro a vs n e hg ho hr T
      exact ⟨_,_,e,.lst (Gh.put_self ..) (hr.le T.gg),T⟩
end
section
variable {G:Top0} {N:Nat} {cx:Cx}
theorem opt_bind {α β:Type} {x:Option α} {f:α→Option β} {b:β} (h:(x >>= f)=some b):∃ a,x=some a∧f a=some b:=by
  induction x using Option.casesOn with
  | none=>exact noneE h
  | some a=>exact ⟨a,rfl,h⟩
theorem bind2 {α β γ:Type} {x:Option (α×β)} {f:α×β→Option γ} {b:γ} {C:Prop} (h:(x >>= f)=some b) (k:∀ a s,x=some (a,s)→f (a,s)=some b→C):C:=
  let ⟨_,h1,h2⟩:=opt_bind h;k _ _ h1 h2
theorem bind1 {α γ:Type} {x:Option α} {f:α→Option γ} {b:γ} {C:Prop} (h:(x >>= f)=some b) (k:∀ a,x=some a→f a=some b→C):C:=
  let ⟨_,h1,h2⟩:=opt_bind h;k _ h1 h2
theorem wp_loadName_fetch {A:Around} {env:Env} {act:Act} {g:Gh} {s:Shared} {st:St} {Q E:Value→Shared→Prop} {n:Str} {v:Value} (O:Ok N cx A env) (I:Inv G cx act env g s st)
    (hk:cx.sc.names.lookup n=some .local) (e:fetch s.heap env act.dx (.loc n)=some v) (h:Q v s):wpAny (model G.prog G.w) A (loadName env n) Q E s:=
  wpAny_loadName_local (by rw [O.sc];exact O.kind) (by unfold Env.kindOf;rw [O.sc];exact hk) (Heap.Ns.of_isNs I.locN) e h
theorem SemE.loc {n:Str} {pos:Pos} {i:Nat} (hp:cx.places[i]? =some (.loc n)) (hk:cx.sc.names.lookup n=some .local) (hd:(n==("__debug__":Str))=false):SemE G N cx (.Name n pos) (eVar i):=by
  intro A env act g s st d st' Q E O I hf h
  refine x23 (I.read hp hf) ?_;intro v g' e r T
  exact wpAny_Name (wp_loadName_fetch O I hk e (h v g' s T r)) hd
theorem cell_fetch {act:Act} {env:Env} {g:Gh} {s:Shared} {st:St} (I:Inv G cx act env g s st) {n:Str} {v:Value} (hp:Loc.cell n∈cx.places) (e:fetch s.heap env act.dx (.cell n)=some v):
    ∃ c,env.cells.lookup n=some c∧s.heap.IsCell c (some v):=by
  refine x23 (I.cell n hp) ?_;intro c v' e1 e2 _
  have e:(match env.cells.lookup n with | some c=>cellVal s.heap c | none=>none)=some v:=e
  rw [e1] at e
  have:=cellVal_of e2
  refine ⟨c,e1,?_⟩
  have e':cellVal s.heap c=some v:=e
  rw [this] at e';subst e';exact e2
theorem SemE.cell {n:Str} {pos:Pos} {i:Nat} (hp:cx.places[i]? =some (.cell n)) (hk:cx.sc.names.lookup n=some .cell) (hd:(n==("__debug__":Str))=false):SemE G N cx (.Name n pos) (eVar i):=by
  intro A env act g s st d st' Q E O I hf h
  refine x23 (I.read hp hf) ?_;intro v g' e r T
  refine x12 (cell_fetch I (List.mem_of_getElem? hp) e) ?_;intro c e1 e2
  exact wpAny_Name (wpAny_loadName_cell (by rw [O.sc];exact O.kind) (by unfold Env.kindOf;rw [O.sc];exact hk) e1 e2 (h v g' s T r)) hd
theorem Inv.gBh {act:Act} {env:Env} {g:Gh} {s:Shared} {st:St} (I:Inv G cx act env g s st):G.gB.inH s.heap:=fun a o e=>I.gh a o (I.ext.gg a o (I.base a o e))
theorem Inv.gBg {act:Act} {env:Env} {g:Gh} {s:Shared} {st:St} (I:Inv G cx act env g s st):G.gB.le g:=I.base.trans I.ext.gg
theorem SemE.glob {n:Str} {pos:Pos} {d:V} {v:Value} (hv:G.mg n=some v) (hr:Rel G.prog G.w G.gB v d) (hk:cx.sc.names.lookup n=some .globalImplicit) (hd:(n==("__debug__":Str))=false):
    SemE G N cx (.Name n pos) (eCst d):=by
  intro A env act g s st d st' Q E O I hf h
  cases hf using pairE
  exact Name_function_global (by rw [O.sc];exact O.kind) (by unfold Env.kindOf;rw [O.sc];exact hk) (loadGlobal_global (O.glob ▸ G.g _ I.gBh) hv (h v g s (.refl I) (hr.le I.gBg))) hd
theorem SemE.int {k:Int} {n:Nat} {pos:Pos}:SemE G N cx (.Constant (.int k) n pos) (eCst (.int k)):=by
  intro A env act g s st d st' Q E O I hf h
  cases hf using pairE
  exact wpAny_Constant_int (h _ g _ (I.stepT _) (.int _ _))
theorem SemE.none {n:Nat} {pos:Pos}:SemE G N cx (.Constant .none n pos) (eCst .none):=by
  intro A env act g s st d st' Q E O I hf h
  cases hf using pairE
  exact wpAny_Constant_none (h _ g _ (.refl I) .none)
theorem SemE.bool {b:Bool} {n:Nat} {pos:Pos}:SemE G N cx (.Constant (.bool b) n pos) (eCst (.bool b)):=by
  intro A env act g s st d st' Q E O I hf h
  cases hf using pairE
  exact wpAny_Constant_bool (h _ g _ (.refl I) (.bool b))
theorem SemE.bytes {b:List UInt8} {n:Nat} {pos:Pos}:SemE G N cx (.Constant (.bytes b) n pos) (eCst (.bytes b)):=by
  intro A env act g s st d st' Q E O I hf h
  cases hf using pairE
  exact wpAny_mkTextBytes (h _ g _ (I.stepT _) (.bytes (by simp)))
theorem small_lt {a:Int} (h:small a=true):a.natAbs<2 ^ 62:=by simpa [small] using h
theorem mulOk {a b:Int} (h:small a=true):IntMulOk a b:=by
  have:=small_lt h
  exact IntMulOk.of_left (intBits_le_64 (by lia) (by lia))
theorem SemE.bin {l r:Expr} {op:Operator} {pos:Pos} {a b:EF} (ha:SemE G N cx l a) (hb:SemE G N cx r b)
    (hop:∀ {A env act g s st x y d v u} {Q E:Value→Shared→Prop},Ok N cx A env→Inv G cx act env g s st→Rel G.prog G.w g v x→Rel G.prog G.w g u y→binV op x y=some d→
      (∀ z g' s',Step G cx act env g s st g' s' st→Rel G.prog G.w g' z d→Q z s')→wpAny (model G.prog G.w) A (binaryOp op v u) Q E s):SemE G N cx (.BinOp l op r pos) (eBin op a b):=by
  intro A env act g s st d st' Q E O I hf h
  refine bind2 hf ?_;clear hf;intro x st1 e1 hf
  refine bind2 hf ?_;clear hf;intro y st2 e2 hf
  refine bind1 hf ?_;clear hf;intro z e3 hf
  cases hf using pairE
  refine wpAny_BinOp (ha O I e1 fun v g1 s1 T1 r1=>hb O T1.inv e2 fun u g2 s2 T2 r2=>hop O T2.inv (r1.le T2.gg) r2 e3 fun z g3 s3 T3 r3=>h z g3 s3 ((T1.trans T2).trans T3) r3)
theorem Rel.tupAt {g:Gh} {h:Heap} (x:g.inH h) {a:Addr} {ds} (r:Rel G.prog G.w g (.ref a) (.tup ds)):∃ vs n,h.get? a=some (TupO vs n)∧Rels G.prog G.w g vs ds∧g a=some (TupO vs n):=by
  cases r with | tup e r=>exact ⟨_,_,x _ _ e,r,e⟩
theorem isTup_of {h:Heap} {a:Addr} {vs n} (e:h.get? a=some (TupO vs n)):IsTup h a vs.toArray:=⟨_,e,rfl,n,rfl⟩
theorem isLst_of {h:Heap} {a:Addr} {vs n} (e:h.get? a=some (LstO vs n)):h.IsList a vs.toArray:=⟨_,e,rfl,n,rfl⟩
theorem lim_le:lim≤sizeLine:=by decide
theorem Inv.made {act:Act} {env:Env} {g:Gh} {s:Shared} {st:St} (I:Inv G cx act env g s st) {o:Obj} (ho:o.isFreed=false):Step G cx act env g s st (g.put s.heap.objs.size o) { s with heap:=s.heap.push o} st:=
  I.step (s':={ s with heap:=s.heap.push o}) (.pushF I.gh ho) rfl rfl
theorem Inv.madeU {act:Act} {env:Env} {g:Gh} {s:Shared} {st:St} (I:Inv G cx act env g s st) (o:Obj):Step G cx act env g s st g { s with heap:=s.heap.push o} st:=
  I.step (s':={ s with heap:=s.heap.push o}) (.push I.gh o) rfl rfl
theorem opInts {op:Operator} {A:Around} {s:Shared} {a b:Int} {d:V} {t u:Tok} {Q E:Value→Shared→Prop} (e:binV op (.int a) (.int b)=some d)
    (h:∀ r,d= .int r→Q (.int r s.toks) { s with toks:=s.toks+1}):wpAny (model G.prog G.w) A (binaryOp op (.int a t) (.int b u)) Q E s:=by
  have k:∀ {r:Int},some (V.int r)=some d→Q (.int r s.toks) { s with toks:=s.toks+1}:=fun e=>h _ (Option.some.inj e).symm
  have k2:∀ {c:Prop} [Decidable c] {r:Int},(if c then some (V.int r) else none)=some d→c∧Q (.int r s.toks) { s with toks:=s.toks+1}:=fun e=>⟨(ite_some e).1,h _ (ite_some e).2.symm⟩
  clear h
  induction op using Operator.casesOn with
  | Add=>exact PyProof.Rows.add_int (k e)
  | Sub=>exact PyProof.Rows.sub_int (k e)
  | Mult=>exact P.mul_int (k2 e).2 (mulOk (Bool.and_eq_true_iff.mp (k2 e).1).1)
  | Mod=>exact PyProof.Rows.mod_int (k2 e).1 (k2 e).2
  | Pow=>have q:=k2 e;exact pow_int_small q.1.2.1 (by lia) (Nat.lt_of_lt_of_le (small_lt q.1.1) (by decide)) q.2
  | LShift=>have q:=k2 e;exact lshift_int_small q.1.2.1 (by lia) (Nat.lt_of_lt_of_le (small_lt q.1.1) (by decide)) q.2
  | RShift=>exact rshift_int (k2 e).1 (k2 e).2
  | BitOr=>exact or_int (k e)
  | BitAnd=>exact and_int (k e)
  | FloorDiv=>have q:=k2 e;exact floordiv_int q.1.1 q.2 (.inl (PyProof.noPylong_small (by lia)))
  | MatMult=>exact noneE e
  | Div=>exact noneE e
  | BitXor=>exact noneE e
theorem tupAdd {act:Act} {env:Env} {g:Gh} {s:Shared} {st:St} {A:Around} {t b:Addr} {x y:List V} {Q E:Value→Shared→Prop} (I:Inv G cx act env g s st)
    (r1:Rel G.prog G.w g (.ref t) (.tup x)) (r2:Rel G.prog G.w g (.ref b) (.tup y)) (hsz:x.length+y.length≤lim)
    (h:∀ z g' s',Step G cx act env g s st g' s' st→Rel G.prog G.w g' z (.tup (x++y))→Q z s'):wpAny (model G.prog G.w) A (binaryOp .Add (.ref t) (.ref b)) Q E s:=by
  refine x23 (r1.tupAt I.gh) ?_;intro vs n ho hr _
  refine x23 (r2.tupAt I.gh) ?_;intro ws n2 ho2 hr2 _
  have l1:=hr.length
  have l2:=hr2.length
  by_cases hv:vs=[]
  · have hx:x=[]:=by subst hv;exact List.length_eq_zero_iff.mp l1.symm
    subst hx
    exact concat_meets ⟨_,ho,rfl⟩ ⟨_,ho2,rfl⟩ noFill_tuple_add seq_tuple_add PySem.F.slot_tuple_add PySem.F.entry_tuple_add (PySem.F.args_tuple_add_2 _ _)
      (tuple_addW0 t b vs.toArray ws.toArray n n2 none none #[] #[] (by simp [hv])) ⟨ho,ho2,h _ g s (.refl I) r2⟩
  · by_cases hw:ws=[]
    · have hy:y=[]:=by subst hw;exact List.length_eq_zero_iff.mp l2.symm
      subst hy
      exact concat_meets ⟨_,ho,rfl⟩ ⟨_,ho2,rfl⟩ noFill_tuple_add seq_tuple_add PySem.F.slot_tuple_add PySem.F.entry_tuple_add (PySem.F.args_tuple_add_2 _ _)
        (tuple_addW1 t b vs.toArray ws.toArray n n2 none none #[] #[] (by simpa using hv) (by simp [hw])) ⟨ho,ho2,h _ g s (.refl I) (by simpa using r1)⟩
    · refine concat_meets ⟨_,ho,rfl⟩ ⟨_,ho2,rfl⟩ noFill_tuple_add seq_tuple_add PySem.F.slot_tuple_add PySem.F.entry_tuple_add (PySem.F.args_tuple_add_2 _ _)
        (tuple_addW2 t b vs.toArray ws.toArray n n2 none none #[] #[] (by simpa using hv) (by simpa using hw) (by have:=lim_le;rw [List.size_toArray,List.size_toArray];lia)) ⟨ho,ho2,?_⟩
      rw [show vs.toArray++ws.toArray=(vs++ws).toArray by simp]
      have T:=I.made (o:=TupO (vs++ws) 0) rfl
      exact h _ _ _ T (.tup (Gh.put_self ..) ((hr.append hr2).le T.gg))
theorem bytesAdd {act:Act} {env:Env} {g:Gh} {s:Shared} {st:St} {A:Around} {b c:Array UInt8} {t u:Tok} {Q E:Value→Shared→Prop} (I:Inv G cx act env g s st) (hsz:b.size+c.size≤lim)
    (h:∀ z g' s',Step G cx act env g s st g' s' st→Rel G.prog G.w g' z (.bytes (b.toList++c.toList))→Q z s'):wpAny (model G.prog G.w) A (binaryOp .Add (.bytes b t) (.bytes c u)) Q E s:=
  KBy.add_bytes (Nat.le_trans hsz (by decide)) fun t' k=>h _ g _ (I.stepT k) (.bytes (by simp))
theorem SemE.binop {l r:Expr} {op:Operator} {pos:Pos} {a b:EF} (ha:SemE G N cx l a) (hb:SemE G N cx r b):SemE G N cx (.BinOp l op r pos) (eBin op a b):=by
  refine SemE.bin ha hb fun {A env act g s st x y d v u Q E} O I r1 r2 e h=> ?_
  have two:∀ {a b:Int},x= .int a→y= .int b→wpAny (model G.prog G.w) A (binaryOp op v u) Q E s:=by
    rintro a b rfl rfl
    refine x11 r1.int_inv ?_;intro t hq1;subst hq1
    refine x11 r2.int_inv ?_;intro t' hq1;subst hq1
    exact opInts e fun r hr=>h _ g _ (I.stepT _) (hr ▸ .int _ _)
  rcases binV_inv e with rfl | ⟨a,b,hx,hy⟩
  · rcases addV_inv e with ⟨a,b,hx,hy,_⟩ | ⟨a,b,rfl,rfl,hc,rfl⟩ | ⟨a,b,rfl,rfl,hc,rfl⟩
    · exact two hx hy
    · refine x22 r1.inv ?_;intro _ _ hq2 hq3;subst hq2;subst hq3
      refine x22 r2.inv ?_;intro _ _ hq2 hq3;subst hq2;subst hq3
      exact bytesAdd I hc h
    · refine x32 r1.inv ?_;intro _ _ _ hq3 _;subst hq3
      refine x32 r2.inv ?_;intro _ _ _ hq3 _;subst hq3
      exact tupAdd I r1 r2 hc h
  · exact two hx hy
theorem truV_ok {A:Around} {s:Shared} {g:Gh} {v:Value} {d:V} {b:Bool} {Q:Bool→Shared→Prop} {E:Value→Shared→Prop} (r:Rel G.prog G.w g v d) (e:truV d=some b) (h:Q b s):wpAny (model G.prog G.w) A (truthy v) Q E s:=by
  induction r using Rel.cs <;> simp only [truV] at e <;> (first | exact noneE e | induction e using someE)
  · exact wpAny_truthy_bool h
  · exact P.truthy_int h
theorem SemE.un {x:Expr} {op:UnaryOp} {pos:Pos} {a:EF} (ha:SemE G N cx x a):SemE G N cx (.UnaryOp op x pos) (eUn op a):=by
  intro A env act g s st d st' Q E O I hf h
  refine bind2 hf ?_;clear hf;intro x st1 e1 hf
  refine bind1 hf ?_;clear hf;intro z e3 hf
  cases hf using pairE
  refine wpAny_UnaryOp (ha O I e1 fun v g1 s1 T1 r1=> ?_)
  induction op using UnaryOp.casesOn with
  | Not=>
    simp only [unV] at e3
    refine x12 (Option.map_eq_some_iff.mp e3) ?_;intro b e4 hq2;subst hq2
    exact not_of (truV_ok r1 e4 (h _ g1 s1 T1 (.bool _)))
  | USub=>
    induction r1 using Rel.cs <;> simp only [unV] at e3 <;> (first | exact noneE e3 | induction e3 using someE)
    exact P.neg_int (h _ g1 _ (T1.trans (T1.inv.stepT _)) (.int _ _))
  | Invert=>
    induction r1 using Rel.cs <;> simp only [unV] at e3 <;> (first | exact noneE e3 | induction e3 using someE)
    exact invert_int (h _ g1 _ (T1.trans (T1.inv.stepT _)) (.int _ _))
  | UAdd=>induction r1 using Rel.cs <;> simp only [unV] at e3 <;> exact noneE e3
theorem eqAt_int {A:Around} {s:Shared} {a b:Int} {t u:Tok}:SeqAt.EqAt A s (.int a t) (.int b u) (a==b):=fun _ _ _ _ h=>wpAny_eqBool_int h
theorem eqAt_int_none {A:Around} {s:Shared} {a:Int} {t:Tok}:SeqAt.EqAt A s (.int a t) .none false:=fun _ _ _ _ h=>eqBool_of_false rfl (by intro _ _ e;cases e) (EqNone.eq_int_none ⟨rfl,rfl⟩) h
theorem intsAre_get {vs:List Value} {ns:List Int} (x:IntsAre vs ns):∀ j (h:j<vs.length),∃ t,vs[j]= .int (ns.getD j 0) t:=by
  induction x with
  | nil=>exact fun j h=>absurd h (Nat.not_lt_zero j)
  | cons n t r ih=>
    intro j h
    rcases j with _ | j
    · exact ⟨t,rfl⟩
    · exact ih j (Nat.lt_of_succ_lt_succ h)
theorem eq_by_places:∀ (x y:List Int),((List.range (min x.length y.length)).all (fun j=>x.getD j 0==y.getD j 0) && x.length==y.length)=(x==y):=by
  intro x y
  by_cases hl:x.length=y.length
  · rw [hl,Nat.min_self,beq_self_eq_true,Bool.and_true]
    rw [Bool.eq_iff_iff,List.all_eq_true,beq_iff_eq]
    constructor
    · intro h
      refine List.ext_getElem hl fun j h1 h2=> ?_
      have:=h j (List.mem_range.mpr h2)
      simpa [List.getD,h1,h2] using this
    · rintro rfl j _;simp
  · have h1:(x.length==y.length)=false:=by simpa using hl
    have h2:(x==y)=false:=by
      rw [beq_eq_false_iff_ne];rintro rfl;exact hl rfl
    rw [h1,h2,Bool.and_false]
theorem tupEqAll {A:Around} {s:Shared} {vs ws:List Value} {a b:List Int} (h1:IntsAre vs a) (h2:IntsAre ws b):
    ∀ j (p:j<vs.toArray.size) (q:j<ws.toArray.size),SeqAt.EqAt A s vs.toArray[j] ws.toArray[j] (a.getD j 0==b.getD j 0):=by
  intro j p q
  refine x11 (intsAre_get h1 j (by simpa using p)) ?_;intro t e
  refine x11 (intsAre_get h2 j (by simpa using q)) ?_;intro u f
  simp only [List.getElem_toArray,e,f]
  exact eqAt_int
theorem eqV_gen {C:Value→Value→Bool→Prop} {g:Gh} {s:Shared} {v u:Value} {x y:V} {b:Bool} (i:g.inH s.heap) (r1:Rel G.prog G.w g v x) (r2:Rel G.prog G.w g u y) (e:eqV x y=some b)
    (c1:∀ a t b u,C (.int a t) (.int b u) (a==b)) (c2:C .none .none true) (c3:∀ a t,C (.int a t) .none false) (c4:∀ a t,C .none (.int a t) false) (c5:∀ (a b:Array UInt8) t u,C (.bytes a t) (.bytes b u) (a.toList==b.toList))
    (c6:∀ l m (vs ws:List Value) a b,s.heap.IsTuple l vs.toArray→s.heap.IsTuple m ws.toArray→IntsAre vs a→IntsAre ws b→C (.ref l) (.ref m) (a==b)):C v u b:=by
  revert e
  induction r1 using Rel.cs with
  | none=>induction r2 using Rel.cs with
    | none=>exact fun e=>Option.some.inj e ▸ c2
    | int a t=>exact fun e=>Option.some.inj e ▸ c4 a t
    | _=>exact noneE
  | int a t=>induction r2 using Rel.cs with
    | none=>exact fun e=>Option.some.inj e ▸ c3 a t
    | int b u=>exact fun e=>Option.some.inj e ▸ c1 a t b u
    | _=>exact noneE
  | bytes h1=>induction r2 using Rel.cs with
    | bytes h2=>subst h1;subst h2;exact fun e=>Option.some.inj e ▸ c5 _ _ _ _
    | _=>exact noneE
  | @tup l n vs ds o1 q1=>induction r2 using Rel.cs with
    | @tup m n' ws es o2 q2=>
      show (match intsOf ds with | some x=>(match intsOf es with | some y=>if ds.length≤lim∧es.length≤lim then some (x==y) else none | none=>none) | none=>none)=some b→_
      cases h1:intsOf ds with
      | none=>exact noneE
      | some a=>cases h2:intsOf es with
        | none=>exact noneE
        | some a'=>exact fun e=>(ite_some e).2 ▸ c6 _ _ _ _ _ _ ⟨_,i _ _ o1,rfl,_,rfl⟩ ⟨_,i _ _ o2,rfl,_,rfl⟩ (q1.ints h1) (q2.ints h2)
    | _=>exact noneE
  | _=>exact noneE
theorem eq_places {vs ws:List Value} {a b:List Int} (i1:IntsAre vs a) (i2:IntsAre ws b):((List.range (min vs.toArray.size ws.toArray.size)).all (fun j=>a.getD j 0==b.getD j 0) && vs.toArray.size==ws.toArray.size)=(a==b):=by
  rw [List.size_toArray,List.size_toArray,i1.length,i2.length,eq_by_places a b]
theorem eqV_ok {A:Around} {s:Shared} {g:Gh} {v u:Value} {x y:V} {b:Bool} {Q E:Value→Shared→Prop} (i:g.inH s.heap) (hu:A.units<cLine) (r1:Rel G.prog G.w g v x) (r2:Rel G.prog G.w g u y) (e:eqV x y=some b) (h:Q (.bool b) s):
    wpAny (model G.prog G.w) A (compareOp .Eq v u) Q E s:=
  eqV_gen (C:=fun v u b=>Q (.bool b) s→wpAny (model G.prog G.w) A (compareOp .Eq v u) Q E s) i r1 r2 e (fun _ _ _ _=>PyProof.Rows.eq_int) EqNone.eq_none_none (fun _ _=>EqNone.eq_int_none) (fun _ _=>EqNone.eq_none_int) (fun _ _ _ _=>PySem.W.eq_bytes)
    (fun _ _ _ _ _ _ t1 t2 i1 i2 h=>SeqAt.eq_tupleAt t1 t2 hu (tupEqAll i1 i2) ((eq_places i1 i2).symm ▸ h)) h
theorem neV_ok {A:Around} {s:Shared} {g:Gh} {v u:Value} {x y:V} {b:Bool} {Q E:Value→Shared→Prop} (i:g.inH s.heap) (hu:A.units<cLine) (r1:Rel G.prog G.w g v x) (r2:Rel G.prog G.w g u y) (e:eqV x y=some b) (h:Q (.bool (!b)) s):
    wpAny (model G.prog G.w) A (compareOp .NotEq v u) Q E s:=
  eqV_gen (C:=fun v u b=>Q (.bool (!b)) s→wpAny (model G.prog G.w) A (compareOp .NotEq v u) Q E s) i r1 r2 e (fun _ _ _ _=>PyProof.Rows.ne_int) EqNone.ne_none_none (fun _ _=>EqNone.ne_int_none) (fun _ _=>EqNone.ne_none_int) (fun _ _ _ _=>PySem.W.ne_bytes)
    (fun _ _ _ _ _ _ t1 t2 i1 i2 h=>SeqAt.RcNeAt.tuples t1 t2 hu (tupEqAll i1 i2) G.prog G.w E Q ((eq_places i1 i2).symm ▸ h)) h
theorem zip_at:∀ {ks:List Int} {vs:List Value} (k:Int),ks.length=vs.length→valueAt ((ks.map some).zip vs) (some k)=(match ks.findIdx? (· ==k) with | some j=>vs[j]? | none=>none):=by
  intro ks
  induction ks with
  | nil=>intro vs k h;rfl
  | cons a r ih=>
    intro vs k h
    induction vs using List.casesOn with
    | nil=>simp at h
    | cons v vs=>
      simp only [valueAt,List.map_cons,List.zip_cons_cons,List.find?_cons,List.findIdx?_cons]
      by_cases e:a=k
      · subst e;simp
      · have e1:decide (some a=some k)=false:=by simp [e]
        have e2:(a==k)=false:=by simpa using e
        rw [e1,e2]
        simp only [Bool.false_eq_true,if_false]
        have:=ih (vs:=vs) k (by simpa using h)
        unfold valueAt at this
        rw [this]
        cases r.findIdx? (· ==k) <;> simp
theorem lookI_at:∀ {ks:List Int} {ds:List V} (k:Int),ks.length=ds.length→lookI k ks ds=(match ks.findIdx? (· ==k) with | some j=>ds[j]? | none=>none):=by
  intro ks
  induction ks with
  | nil=>intro ds k h;induction ds using List.casesOn <;> rfl
  | cons a r ih=>
    intro ds k h
    induction ds using List.casesOn with
    | nil=>simp at h
    | cons v vs=>
      simp only [lookI_c,List.findIdx?_cons]
      by_cases e:a=k
      · subst e;simp
      · have e2:(a==k)=false:=by simpa using e
        have e3:(k==a)=false:=by simpa using fun h=>e h.symm
        rw [e2,e3]
        simp only [Bool.false_eq_true,if_false]
        rw [ih k (by simpa using h)]
        cases r.findIdx? (· ==k) <;> simp
theorem none_at (ks:List Int) (vs:List Value):valueAt ((ks.map some).zip vs) none=Option.none:=by
  unfold valueAt
  rw [Option.map_eq_none_iff,List.find?_eq_none]
  rintro ⟨a,b⟩ h
  have:=List.of_mem_zip h
  refine x12 (List.mem_map.mp this.1) ?_;intro x _ e
  simp [← e]
theorem DctAt.map {g:Gh} {h:Heap} (i:g.inH h) {a ks vs} (x:DctAt G.prog G.w g a ks vs):h.MapOf (oik G.prog G.w) a (valueAt ((ks.map some).zip vs)):=by
  obtain ⟨_,hl,es,n,e,hk,hp,hn⟩:=x
  refine Heap.DictOf.mapOf ⟨_,es,n,i _ _ e,⟨rfl,rfl,rfl⟩,rfl,hk,hp,?_⟩
  rw [List.map_fst_zip (by simp [hl])]
  exact hn
theorem contains_idx:∀ (ks:List Int) (k:Int),ks.contains k=(ks.findIdx? (· ==k)).isSome:=by
  intro ks k
  induction ks with
  | nil=>rfl
  | cons a r ih=>
    rw [List.contains_cons,List.findIdx?_cons,ih]
    by_cases e:a=k
    · subst e;simp
    · have e2:(a==k)=false:=by simpa using e
      have e3:(k==a)=false:=by simpa using fun h=>e h.symm
      rw [e2,e3];simp
theorem found_some {ks:List Int} {vs:List Value} {k:Int} (hl:ks.length=vs.length):(match ks.findIdx? (· ==k) with | some j=>vs[j]? | Option.none=>Option.none).isSome=ks.contains k:=by
  rw [contains_idx]
  cases e:ks.findIdx? (· ==k) with
  | none=>rfl
  | some j=>
    have:=(List.findIdx?_eq_some_iff_getElem.mp e).1
    simp [hl ▸ this]
theorem any_contains (ns:List Int) (k:Int):ns.any (· ==k)=ns.contains k:=by
  rw [Bool.eq_iff_iff,List.any_eq_true,List.contains_iff_mem]
  exact ⟨fun ⟨x,hx,e⟩=>beq_iff_eq.mp e ▸ hx,fun hm=>⟨k,hm,beq_self_eq_true k⟩⟩
theorem inV_ok {A:Around} {s:Shared} {g:Gh} {v u:Value} {x y:V} {b:Bool} {Q E:Value→Shared→Prop} (i:g.inH s.heap) (r1:Rel G.prog G.w g v x) (r2:Rel G.prog G.w g u y) (e:inV x y=some b) (h:∀ t,Q (.bool b) { s with toks:=t}):
    wpAny (model G.prog G.w) A (compareOp .In v u) Q E s:=by
  revert e
  induction r1 using Rel.cs with
  | int k t=>
    induction r2 using Rel.cs with
    | dct hd hr=>
      intro e
      refine wpAny_in_of (knd:=oik G.prog G.w) (k:=some k) (by simp [oik,isOI]) hd.1 (hd.map i) ?_
      rw [zip_at k hd.2.1,found_some hd.2.1,Option.some.inj e];exact h _
    | tup o q=>
      intro e
      refine x12 (Option.map_eq_some_iff.mp e) ?_;intro ns e1 e2
      refine in_tuple_ints (isTup_of (i _ _ o)) (by simpa using q.ints e1) ?_
      rw [any_contains,e2];exact h s.toks
    | _=>exact noneE
  | none=>
    induction r2 using Rel.cs with
    | dct hd hr=>
      intro e
      refine wpAny_in_of (knd:=oik G.prog G.w) (k:=Option.none) (by simp [oik,isOI]) hd.1 (hd.map i) ?_
      rw [none_at];show Q (.bool false) { s with toks:=s.toks+1};exact Option.some.inj e ▸ h _
    | tup o q=>
      intro e
      refine x12 (Option.map_eq_some_iff.mp e) ?_;intro ns e1 e2
      refine SeqAt.in_tupleAt (fun _=>false) ⟨_,i _ _ o,rfl,_,rfl⟩ (fun y hy=> ?_) ?_
      · obtain ⟨j,hj,e⟩:=Array.getElem_of_mem hy
        refine x11 (intsAre_get (q.ints e1) j (by simpa using hj)) ?_;intro t e'
        rw [List.getElem_toArray] at e
        rw [← e,e']
        exact eqAt_int_none
      · rw [show ∀ l:List Value,(l.toArray.any fun _=>false)=false from fun l=>by simp,e2];exact h s.toks
    | _=>exact noneE
  | _=>exact noneE
theorem notIn_of {A:Around} {s:Shared} {v u:Value} {Q E:Value→Shared→Prop} (h:wpAny (model G.prog G.w) A (compareOp .In v u) (fun r s'=>∃ b:Bool,r=Value.bool b∧Q (Value.bool (!b)) s') E s):wpAny (model G.prog G.w) A (compareOp .NotIn v u) Q E s:=by
  have h':wpAny (model G.prog G.w) A (do return Value.bool (← contains u v)) (fun r s'=>∃ b:Bool,r=Value.bool b∧Q (Value.bool (!b)) s') E s:=h
  show wpAny (model G.prog G.w) A (do return Value.bool (!(← contains u v))) Q E s
  refine wpAny_bind (fun Γ p hΓ=> ?_)
  have q:=h' Γ p hΓ
  rw [Sem.wp_bind'] at q
  refine Sem.wp_mono _ Γ _ (fun b p' s' hq=> ?_) (fun _ _ _ e=>e) p s q
  refine x12 hq ?_;(try clear hq);intro b' e hb
  cases e
  exact wpAny_pure hb
theorem cmpV_ok {act:Act} {env:Env} {st:St} {A:Around} {s:Shared} {g:Gh} {op:CmpOp} {v u:Value} {x y:V} {b:Bool} {Q E:Value→Shared→Prop} (O:Ok N cx A env) (I:Inv G cx act env g s st) (r1:Rel G.prog G.w g v x) (r2:Rel G.prog G.w g u y) (e:cmpV op x y=some b)
    (h:∀ t,Q (.bool b) { s with toks:=t}):wpAny (model G.prog G.w) A (compareOp op v u) Q E s:=by
  have hu:A.units<cLine:=Nat.lt_of_le_of_lt (Nat.le_trans (Nat.le_add_right _ _) (Nat.le_add_right _ _)) O.units
  have i:=I.gh
  clear I O
  have two:∀ {f:Int→Int→Bool},i2B f x y=some b→(∀ i t j t',v= .int i t→u= .int j t'→Q (.bool (f i j)) s→wpAny (model G.prog G.w) A (compareOp op v u) Q E s)→wpAny (model G.prog G.w) A (compareOp op v u) Q E s:=by
    intro f e k
    refine x23 (i2B_inv e) ?_;intro a c hx hy hb
    refine x11 ((hx ▸ r1).int_inv) ?_;intro t e1
    refine x11 ((hy ▸ r2).int_inv) ?_;intro t' e2
    exact k a t c t' e1 e2 (hb ▸ h s.toks)
  induction op using CmpOp.casesOn with
  | Eq=>exact eqV_ok i hu r1 r2 e (h s.toks)
  | NotEq=>refine x12 (Option.map_eq_some_iff.mp e) ?_;intro c e1 e2;exact neV_ok i hu r1 r2 e1 (e2 ▸ h s.toks)
  | In=>exact inV_ok i r1 r2 e h
  | NotIn=>refine x12 (Option.map_eq_some_iff.mp e) ?_;intro c e1 e2;exact notIn_of (inV_ok i r1 r2 e1 fun t=>⟨c,rfl,e2 ▸ h t⟩)
  | Is=>
    refine x02 (isV_inv e) ?_;intro e1 e2
    rw [show u= .none from (e1 ▸ r2).inv]
    refine is_none ?_
    rw [r1.isNone,show isNV x=b by rw [← e2];cases isNV x <;> rfl];exact h s.toks
  | IsNot=>
    refine x02 (isV_inv e) ?_;intro e1 e2
    rw [show u= .none from (e1 ▸ r2).inv]
    refine isNot_none ?_
    rw [r1.isNone,show (!isNV x)=b by rw [← e2];cases isNV x <;> rfl];exact h s.toks
  | Lt=>exact two e fun _ _ _ _ e1 e2 q=>e1 ▸ e2 ▸ P.lt_int q
  | LtE=>exact two e fun _ _ _ _ e1 e2 q=>e1 ▸ e2 ▸ P.le_int q
  | Gt=>exact two e fun _ _ _ _ e1 e2 q=>e1 ▸ e2 ▸ P.gt_int q
  | GtE=>exact two e fun _ _ _ _ e1 e2 q=>e1 ▸ e2 ▸ P.ge_int q
theorem SemE.cmp {l r:Expr} {op:CmpOp} {pos:Pos} {a b:EF} (ha:SemE G N cx l a) (hb:SemE G N cx r b) (hm:behindInMarks op r=false):SemE G N cx (.Compare l [op] [r] pos) (eCmp op a b):=by
  intro A env act g s st d st' Q E O I hf h
  refine bind2 hf ?_;clear hf;intro x st1 e1 hf
  refine bind2 hf ?_;clear hf;intro y st2 e2 hf
  refine bind1 hf ?_;clear hf;intro z e3 hf
  cases hf using pairE
  exact wpAny_Compare1 (ha O I e1 fun v g1 s1 T1 r1=>hb O T1.inv e2 fun u g2 s2 T2 r2=>cmpV_ok O T2.inv (r1.le T2.gg) r2 e3 fun t=>h _ g2 _ ((T1.trans T2).trans (T2.inv.stepT t)) (.bool _)) hm
theorem SemT.cmp {l r:Expr} {op:CmpOp} {pos:Pos} {a b:EF} (ha:SemE G N cx l a) (hb:SemE G N cx r b) (hm:behindInMarks op r=false):SemT G N cx (.Compare l [op] [r] pos) (tCmp op a b):=by
  intro A env act g s st d st' Q E O I hf h
  refine bind2 hf ?_;clear hf;intro x st1 e1 hf
  refine bind2 hf ?_;clear hf;intro y st2 e2 hf
  refine bind1 hf ?_;clear hf;intro z e3 hf
  cases hf using pairE
  exact wpAny_isTrue_Compare1 (ha O I e1 fun v g1 s1 T1 r1=>hb O T1.inv e2 fun u g2 s2 T2 r2=>cmpV_ok O T2.inv (r1.le T2.gg) r2 e3 fun t=>wpAny_truthy_bool (h g2 _ ((T1.trans T2).trans (T2.inv.stepT t)))) hm
theorem SemT.cmp2 {l m r:Expr} {op op':CmpOp} {pos:Pos} {a b c:EF} (ha:SemE G N cx l a) (hb:SemE G N cx m b) (hc:SemE G N cx r c) (hm:behindInMarks op' r=false):SemT G N cx (.Compare l [op,op'] [m,r] pos) (tCmp2 op op' a b c):=by
  intro A env act g s st d st' Q E O I hf h
  refine bind2 hf ?_;clear hf;intro x st1 e1 hf
  refine bind2 hf ?_;clear hf;intro y st2 e2 hf
  refine bind1 hf ?_;clear hf;intro z e3 hf
  show wpAny _ A (do let a←eval l env;testChain pos a [op,op'] [eval m env,markedBehindIn op' r (eval r env)]) Q E s
  rw [markedBehindIn_of_false hm]
  refine wpAny_bind (ha O I e1 fun v g1 s1 T1 r1=> ?_)
  show wpAny _ A (do let rv←holding [v] (eval m env);standAt pos;let c←holding [v,rv] (compareOp op v rv);release [v,rv] [c];if←holding [c,rv] (truthy c) then testChain pos rv [op'] [eval r env] else pure false) Q E s1
  refine wpAny_bind (wpAny_holding (hb O T1.inv e2 fun u g2 s2 T2 r2=>wpAny_bind (wpAny_standAt (wpAny_bind (wpAny_holding (cmpV_ok O T2.inv (r1.le T2.gg) r2 e3 fun t=>wpAny_bind (wpAny_release (wpAny_bind (wpAny_holding (wpAny_truthy_bool ?_))))))))))
  have T3:=(T1.trans T2).trans (T2.inv.stepT t)
  induction z using Bool.casesOn with
  | false=>
    cases hf using pairE
    exact wpAny_pure (h g2 _ T3)
  | true=>
    refine bind2 hf ?_;clear hf;intro w' st3 e4 hf
    refine bind1 hf ?_;clear hf;intro z' e5 hf
    cases hf using pairE
    show wpAny _ A (do let rv←holding [u] (eval r env);standAt pos;let c←operate [u,rv] (compareOp op' u rv);holding [c] (truthy c)) Q E _
    exact wpAny_bind (wpAny_holding (hc O T3.inv e4 fun k g3 s3 T4 r3=>wpAny_bind (wpAny_standAt (wpAny_bind (wpAny_operateT (cmpV_ok O T4.inv (r2.le T4.gg) r3 e5 fun t=>wpAny_holding (wpAny_truthy_bool (h g3 _ ((T3.trans T4).trans (T4.inv.stepT t))))))))))
theorem SemE.and2 {x y:Expr} {pos:Pos} {a b:EF} (ha:SemE G N cx x a) (hb:SemE G N cx y b):SemE G N cx (.BoolOp .And [x,y] pos) (eAnd a b):=by
  intro A env act g s st d st' Q E O I hf h
  refine bind2 hf ?_;clear hf;intro x1 st1 e1 hf
  refine bind1 hf ?_;clear hf;intro t e2 hf
  show wpAny _ A (do let v←eval x env;standAt pos;let t←holding [v] (truthy v);match BoolOp.And,t with | .And,false | .Or,true=>pure v | _,_=>eval y env) Q E s
  refine wpAny_bind (ha O I e1 fun v g1 s1 T1 r1=>wpAny_bind (wpAny_standAt (wpAny_bind (wpAny_holding (truV_ok r1 e2 ?_)))))
  induction t using Bool.casesOn with
  | false=>induction hf using pairE;exact wpAny_pure (h v g1 s1 T1 r1)
  | true=>exact hb O T1.inv hf fun u g2 s2 T2 r2=>h u g2 s2 (T1.trans T2) r2
theorem boolOp_and {pos:Pos} {x y:Sem Value} {r:List (Sem Value)}:boolOp pos .And (x::y::r)=(do let v←x;standAt pos;let t←holding [v] (truthy v);match t with | false=>pure v | true=>boolOp pos .And (y::r)):=by
  show (do let v←x;standAt pos;let t←holding [v] (truthy v);match BoolOp.And,t with | .And,false | .Or,true=>pure v | _,_=>boolOp pos .And (y::r))=_
  congr 1;funext v;congr 1;funext _;congr 1;funext t;induction t using Bool.casesOn <;> rfl
theorem SemE.and3 {x y z:Expr} {r:List Expr} {pos:Pos} {a b:EF} (ha:SemE G N cx x a) (hb:SemE G N cx (.BoolOp .And (y::z::r) pos) b):SemE G N cx (.BoolOp .And (x::y::z::r) pos) (eAnd a b):=by
  intro A env act g s st d st' Q E O I hf h
  refine bind2 hf ?_;clear hf;intro x1 st1 e1 hf
  refine bind1 hf ?_;clear hf;intro t e2 hf
  show wpAny _ A (boolOp pos .And (eval x env::eval y env::evalEach (z::r) env)) Q E s
  rw [boolOp_and]
  refine wpAny_bind (ha O I e1 fun v g1 s1 T1 r1=>wpAny_bind (wpAny_standAt (wpAny_bind (wpAny_holding (truV_ok r1 e2 ?_)))))
  induction t using Bool.casesOn with
  | false=>induction hf using pairE;exact wpAny_pure (h v g1 s1 T1 r1)
  | true=>exact hb O T1.inv hf fun u g2 s2 T2 r2=>h u g2 s2 (T1.trans T2) r2
theorem SemE.ite {t x y:Expr} {pos:Pos} {c:TF} {a b:EF} (hc:SemT G N cx t c) (ha:SemE G N cx x a) (hb:SemE G N cx y b):SemE G N cx (.IfExp t x y pos) (eIf c a b):=by
  intro A env act g s st d st' Q E O I hf h
  refine bind2 hf ?_;clear hf;intro v st1 e1 hf
  refine wpAny_IfExp (hc O I e1 fun g1 s1 T1=> ?_)
  induction v using Bool.casesOn with
  | true=>exact ha O T1.inv hf fun u g2 s2 T2 r2=>h u g2 s2 (T1.trans T2) r2
  | false=>exact hb O T1.inv hf fun u g2 s2 T2 r2=>h u g2 s2 (T1.trans T2) r2
theorem SemT.not {x:Expr} {pos:Pos} {a:TF} (ha:SemT G N cx x a):SemT G N cx (.UnaryOp .Not x pos) (tNot a):=by
  intro A env act g s st d st' Q E O I hf h
  refine bind2 hf ?_;clear hf;intro v st1 e1 hf
  cases hf using pairE
  exact wpAny_isTrue_Not (ha O I e1 fun g1 s1 T1=>h g1 s1 T1)
noncomputable def SemAll (G:Top0) (N:Nat) (cx:Cx) (op:BoolOp) (es:List Expr) (f:TF):Prop:=∀ ⦃A env act g s st b st'⦄ ⦃Q:Bool→Shared→Prop⦄ ⦃E:Value→Shared→Prop⦄,Ok N cx A env→Inv G cx act env g s st→f st=some (b,st')→
  (∀ g' s',Step G cx act env g s st g' s' st'→Q b s')→wpAny (model G.prog G.w) A (allTrue op es env) Q E s
theorem SemAll.and1 {x:Expr} {a:TF} (ha:SemT G N cx x a):SemAll G N cx .And [x] a:=by
  intro A env act g s st d st' Q E O I hf h
  refine wpAny_allTrue_And_cons (ha O I hf fun g1 s1 T1=> ?_)
  induction d using Bool.casesOn
  · exact h g1 s1 T1
  · exact wpAny_allTrue_And_nil (h g1 s1 T1)
theorem SemAll.or1 {x:Expr} {a:TF} (ha:SemT G N cx x a):SemAll G N cx .Or [x] a:=by
  intro A env act g s st d st' Q E O I hf h
  refine wpAny_allTrue_Or_cons (ha O I hf fun g1 s1 T1=> ?_)
  induction d using Bool.casesOn
  · exact wpAny_allTrue_Or_nil (h g1 s1 T1)
  · exact h g1 s1 T1
theorem SemAll.and {x:Expr} {r:List Expr} {a b:TF} (ha:SemT G N cx x a) (hb:SemAll G N cx .And r b):SemAll G N cx .And (x::r) (tAnd a b):=by
  intro A env act g s st d st' Q E O I hf h
  refine bind2 hf ?_;clear hf;intro v st1 e1 hf
  refine wpAny_allTrue_And_cons (ha O I e1 fun g1 s1 T1=> ?_)
  induction v using Bool.casesOn
  · induction hf using pairE;exact h g1 s1 T1
  · exact hb O T1.inv hf fun g2 s2 T2=>h g2 s2 (T1.trans T2)
theorem SemAll.or {x:Expr} {r:List Expr} {a b:TF} (ha:SemT G N cx x a) (hb:SemAll G N cx .Or r b):SemAll G N cx .Or (x::r) (tOr a b):=by
  intro A env act g s st d st' Q E O I hf h
  refine bind2 hf ?_;clear hf;intro v st1 e1 hf
  refine wpAny_allTrue_Or_cons (ha O I e1 fun g1 s1 T1=> ?_)
  induction v using Bool.casesOn
  · exact hb O T1.inv hf fun g2 s2 T2=>h g2 s2 (T1.trans T2)
  · induction hf using pairE;exact h g1 s1 T1
theorem SemT.all {op:BoolOp} {es:List Expr} {pos:Pos} {a:TF} (ha:SemAll G N cx op es a):SemT G N cx (.BoolOp op es pos) a:=by
  intro A env act g s st d st' Q E O I hf h
  exact wpAny_isTrue_BoolOp (ha O I hf h)
theorem SemT.val {x:Expr} {a:EF} (ha:SemE G N cx x a) (hx:∀ env whole,isTrue x env whole=(do let v←whole;standAt x.pos;holding [v] (truthy v))):SemT G N cx x (tVal a):=by
  intro A env act g s st d st' Q E O I hf h
  refine bind2 hf ?_;clear hf;intro v st1 e1 hf
  refine bind1 hf ?_;clear hf;intro z e2 hf
  cases hf using pairE
  rw [hx]
  exact wpAny_bind (ha O I e1 fun u g1 s1 T1 r1=>wpAny_bind (wpAny_standAt (wpAny_holding (truV_ok r1 e2 (h g1 s1 T1)))))
end
end Mine
end
section
open PySem PySem.Calls PyProof.Rows PySem.W
set_option maxRecDepth 10000
namespace Mine
section
variable {G:Top0} {N:Nat} {cx:Cx}
noncomputable def SemEs (G:Top0) (N:Nat) (cx:Cx) (es:List Expr) (fs:List EF):Prop:=∀ ⦃A env act g s st ds st'⦄ ⦃pos:Pos⦄ ⦃Q:List Value→Shared→Prop⦄ ⦃E:Value→Shared→Prop⦄,Ok N cx A env→Inv G cx act env g s st→evs fs st=some (ds,st')→
  (∀ vs g' s',Step G cx act env g s st g' s' st'→Rels G.prog G.w g' vs ds→Q vs s')→wpAny (model G.prog G.w) A (spliced (backTo pos (starEach es env))) Q E s
theorem SemEs.nil:SemEs G N cx [] []:=by
  intro A env act g s st ds st' pos Q E O I hf h
  cases hf using pairE
  exact wpAny_items_nil (h _ g s (.refl I) .nil)
theorem starEach_plain {e:Expr} {rest:List Expr} (h:isStarred e=false) (env:Env):starEach (e::rest) env=(false,eval e env)::starEach rest env:=by
  cases e <;> first | rfl | exact tfE h
theorem SemEs.cons {e:Expr} {es:List Expr} {f:EF} {fs:List EF} (ha:SemE G N cx e f) (hb:SemEs G N cx es fs) (he:isStarred e=false):SemEs G N cx (e::es) (f::fs):=by
  intro A env act g s st ds st' pos Q E O I hf h
  refine bind2 hf ?_;clear hf;intro x st1 e1 hf
  refine bind2 hf ?_;clear hf;intro xs st2 e2 hf
  cases hf using pairE
  exact wpAny_items_cons (ha O I e1 fun v g1 s1 T1 r1=>hb O T1.inv e2 fun vs g2 s2 T2 r2=>h _ g2 s2 (T1.trans T2) (.cons (r1.le T2.gg) r2)) (starEach_plain he env)
theorem evs_length:∀ {fs:List EF} {st:St} {ds st'},evs fs st=some (ds,st')→ds.length=fs.length:=by
  intro fs
  induction fs with
  | nil=>intro st ds st' h;induction h using pairE;rfl
  | cons f r ih=>
    intro st ds st' h
    refine bind2 h ?_;clear h;intro x st1 e1 h
    refine bind2 h ?_;clear h;intro xs st2 e2 h
    induction h using pairE
    simp [ih e2]
theorem SemE.tup {es:List Expr} {fs:List EF} {k:Nat} {pos:Pos} (ha:SemEs G N cx es fs) (hn:fs.length≤sizeLine):SemE G N cx (.Tuple es k pos) (eTup fs):=by
  intro A env act g s st d st' Q E O I hf h
  refine bind2 hf ?_;clear hf;intro xs st1 e1 hf
  cases hf using pairE
  refine wpAny_Tuple (ha O I e1 fun vs g1 s1 T1 r1=>⟨by rw [r1.length,evs_length e1];exact hn,?_⟩)
  have T:=T1.inv.made (o:=TupO vs 0) rfl
  exact h _ _ _ (T1.trans T) (.tup (Gh.put_self ..) (r1.le T.gg))
theorem Touch.live {act:Act} {env:Env} {g:Gh} {s:Shared} {st:St} (I:Inv G cx act env g s st) {a:Addr} (h:Touch cx act env s st a):∃ o,s.heap.get? a=some o:=by
  rcases h with ⟨ho,rfl⟩ | ⟨i,p,l,hp,hl,e⟩
  · cases hc:cx.obj with
    | none=>rw [hc] at ho;exact ftE ho
    | some pb=>obtain ⟨p,b⟩:=pb;refine x32 (Heap.Ns.of_isNs (I.obj p b hc).1.1.1) ?_;intro o _ _ e _;exact ⟨o,e⟩
  · refine x33 (I.slots i p _ hp hl) ?_;intro b vs n e1 e2 _
    rw [e] at e1;cases e1
    exact ⟨_,e2⟩
theorem Inv.locLive {act:Act} {env:Env} {g:Gh} {s:Shared} {st:St} (I:Inv G cx act env g s st):∃ o,s.heap.get? env.locals=some o:=let ⟨o,_,_,e,_⟩:=Heap.Ns.of_isNs I.locN;⟨o,e⟩
theorem NewL.made {act:Act} {env:Env} {g g':Gh} {s s':Shared} {st st':St} {vs:List Value} {l:List V} {n:Nat} (T:Step G cx act env g s st g' s' st') (r:Rels G.prog G.w g' vs l):
    NewL G cx act env g s st s'.heap.objs.size l g' { s' with heap:=s'.heap.push (LstO vs n)} st':=by
  have M:=T.inv.madeU (LstO vs n)
  have hd:=dead_end s'.heap (Nat.le_refl _)
  refine ⟨T.trans M,T.ext.alive _ hd,T.inv.ext.alive _ hd,⟨vs,n,Heap.get?_push_size _ rfl,r⟩,Gh.fresh T.inv.gh hd,fun h=> ?_,?_⟩
  · have:Touch cx act env s' st' s'.heap.objs.size:=by
      rcases h with h | ⟨i,p,l,hp,hl,e⟩
      · exact .inl h
      · exact .inr ⟨i,p,l,hp,hl,by rw [← e];exact (T.inv.fetch_keep (fun _ _ e=>Heap.get?_push_of_some _ e) (List.mem_of_getElem? hp)).symm⟩
    refine x11 (this.live T.inv) ?_;intro o e
    rw [hd] at e;exact noneE e
  · refine x11 T.inv.locLive ?_;intro o e
    exact (live_ne e hd).symm
theorem SemL.disp {es:List Expr} {fs:List EF} {pos:Pos} (ha:SemEs G N cx es fs) (hn:fs.length≤sizeLine):SemL G N cx (.List es pos) (lDisp fs):=by
  intro A env act g s st d st' Q E O I hf h
  exact wpAny_List (ha O I hf fun vs g1 s1 T1 r1=>⟨by rw [r1.length,evs_length hf];exact hn,h _ _ _ (NewL.made (n:=0) T1 r1)⟩)
theorem NewL.freeze {act:Act} {env:Env} {g g':Gh} {s s':Shared} {st st':St} {a:Addr} {l:List V} (x:NewL G cx act env g s st a l g' s' st'):
    ∃ g'',Step G cx act env g s st g'' s' st'∧Rel G.prog G.w g'' (.ref a) (.lst l):=by
  obtain ⟨T,hf,ha,⟨vs,n,e,r⟩,hg,hm,hL⟩:=x
  have I:=T.inv
  have le:=Gh.le_put (o:=LstO vs n) hg
  have gh:(g'.put a (LstO vs n)).inH s'.heap:=fun b o q=>by
    unfold Gh.put at q
    by_cases hb:b=a
    · subst hb;rw [if_pos rfl] at q;induction q using someE;exact e
    · rw [if_neg hb] at q;exact I.gh _ _ q
  refine ⟨g'.put a (LstO vs n),⟨⟨I.gens,I.os,I.base,⟨I.ext.gg.trans le,gh,I.ext.hh,fun b ob hlt hn hW=> ?_,I.ext.alive⟩,I.locL,?_,I.locN,I.len,fun m hm'=> ?_,fun j q sl hq hs=> ?_,I.apart,fun q b hq=> ?_,I.nofld,I.ownC⟩,
    ⟨T.ext.gg.trans le,gh,T.ext.hh,fun b ob hlt hn hW=> ?_,T.ext.alive⟩,T.touch⟩,.lst (Gh.put_self ..) (r.le le)⟩
  · rw [Gh.put_ne]
    · exact I.ext.priv b ob hlt hn hW
    · rintro rfl
      rw [hlt] at ha;exact noneE' ha
  · rw [Gh.put_ne (Ne.symm hL)];exact I.locG
  · refine x23 (I.cell m hm') ?_;intro c v e1 e2 e3
    exact ⟨c,v,e1,e2,by rw [Gh.put_ne (cell_ne_lst e2 e)];exact e3⟩
  · have:=I.slots j q sl hq hs
    induction sl using Slot.casesOn with
    | unset=>trivial
    | val d=>refine x12 this ?_;(try clear this);intro v e1 r;exact ⟨v,e1,r.le le⟩
    | own l'=>
      refine x35 this ?_;(try clear this);intro b ws k e1 e2 e3 e4 e5
      refine ⟨b,ws,k,e1,e2,?_,e4,e5.le le⟩
      rw [Gh.put_ne]
      · exact e3
      · rintro rfl;exact hm (.inr ⟨j,q,l',hq,hs,e1⟩)
  · obtain ⟨⟨o1,o2,o3,o4⟩,o5,o6,o7⟩:=I.obj q b hq
    refine ⟨⟨o1,by rw [Gh.put_ne (ns_ne_lst o1.1 e)];exact o2,o3,o4⟩,o5,?_,fun m hm=> ?_⟩
    · induction b using Bool.casesOn
      · exact o6
      · exact le _ _ o6
    · refine x23 (o7 m hm) ?_;intro c v e1 e2 e3
      exact ⟨c,v,e1,e2,by rw [Gh.put_ne (cell_ne_lst e2 e)];exact e3⟩
  · rw [Gh.put_ne]
    · exact T.ext.priv b ob hlt hn hW
    · rintro rfl;rw [hlt] at hf;exact noneE' hf
theorem SemE.ofL {e:Expr} {f:LF} (ha:SemL G N cx e f):SemE G N cx e (eL f):=by
  intro A env act g s st d st' Q E O I hf h
  refine bind2 hf ?_;clear hf;intro xs st1 e1 hf
  cases hf using pairE
  refine ha O I e1 fun a g1 s1 X=> ?_
  refine x12 X.freeze ?_;intro g2 T r
  exact h _ _ _ T r
section
variable {act:Act} {env:Env} {g g' g'':Gh} {s s' s'':Shared} {st st' st'':St} {d:Addr}
theorem Inv.cellsLt (I:Inv G cx act env g s st) {n:Str} {c:Addr} (h:Loc.cell n∈cx.places∨∃ b,cx.obj=some (.cell n,b)) (e:env.cells.lookup n=some c):∃ v,s.heap.IsCell c v:=by
  rcases h with h | ⟨b,h⟩
  · refine x23 (I.cell n h) ?_;intro c' v e1 e2 _
    rw [e] at e1;induction e1 using someE;exact ⟨v,e2⟩
  · refine x23 ((I.obj _ b h).2.2.2 n rfl) ?_;intro c' v e1 e2 _
    rw [e] at e1;induction e1 using someE;exact ⟨v,e2⟩
theorem Spare.new (I:Inv G cx act env g s st) {o:Obj} (ho:o.isFreed=false):Spare cx act env g { s with heap:=s.heap.push o} st s.heap.objs.size:=by
  have hd:=dead_end s.heap (Nat.le_refl _)
  refine ⟨⟨o,Heap.get?_push_size _ ho⟩,Gh.fresh I.gh hd,fun h=> ?_,?_,fun n c h e=> ?_,I.ext.alive _ hd⟩
  · have:Touch cx act env s st s.heap.objs.size:=by
      rcases h with h | ⟨i,p,l,hp,hl,e⟩
      · exact .inl h
      · exact .inr ⟨i,p,l,hp,hl,by rw [← e];exact (I.fetch_keep (fun _ _ e=>Heap.get?_push_of_some _ e) (List.mem_of_getElem? hp)).symm⟩
    refine x11 (this.live I) ?_;intro o e
    rw [hd] at e;exact noneE e
  · refine x11 I.locLive ?_;intro o e
    exact (live_ne e hd).symm
  · refine x22 (I.cellsLt h e) ?_;intro v o q _
    exact live_ne q hd
theorem Spare.step (x:Spare cx act env g s st d) (T:Step G cx act env g s st g' s' st'):Spare cx act env g' s' st' d:=
  let ⟨o,e⟩:=x.live
  ⟨⟨o,T.ext.hh d o e x.nt⟩,T.ext.priv d o e x.gh x.nt,fun h=>(T.touch d h).elim x.nt fun l=>(by rw [e] at l;exact noneE' l),x.nL,x.nC,x.ab⟩
theorem Spare.keep (x:Spare cx act env g s st d) (T:Step G cx act env g s st g' s' st') {o:Obj} (e:s.heap.get? d=some o):s'.heap.get? d=some o:=T.ext.hh d o e x.nt
theorem Step.ss (T:Step G cx act env g s st g' s' st'):SStep G cx act env g s st g' s' st':=⟨T.gg,T.inv,fun d S=>⟨S.step T,let ⟨o,e⟩:=S.live;(S.keep T e).trans e.symm⟩⟩
theorem SStep.refl (I:Inv G cx act env g s st):SStep G cx act env g s st g s st:=⟨.refl g,I,fun _ S=>⟨S,rfl⟩⟩
theorem SStep.trans (x:SStep G cx act env g s st g' s' st') (y:SStep G cx act env g' s' st' g'' s'' st''):SStep G cx act env g s st g'' s'' st'':=
  ⟨x.le.trans y.le,y.inv,fun d S=>let ⟨a,b⟩:=x.sp d S;let ⟨c,e⟩:=y.sp d a;⟨c,e.trans b⟩⟩
theorem Inv.fetch_poke (I:Inv G cx act env g s st) (S:Spare cx act env g s st d) {h':Heap} (hs:Heap.ExtBut d s.heap h') {p:Loc} (hp:p∈cx.places∨∃ b,cx.obj=some (p,b)):fetch h' env act.dx p=fetch s.heap env act.dx p:=by
  cases p with
  | loc n=>exact congrFun (nsMap_keep I.locN fun o e=>hs _ _ (Ne.symm S.nL) e).2 n
  | cell n=>
    show (match env.cells.lookup n with | some c=>cellVal h' c | none=>none)=(match env.cells.lookup n with | some c=>cellVal s.heap c | none=>none)
    cases e:env.cells.lookup n with
    | none=>rfl
    | some c=>
      refine x22 (I.cellsLt hp e) ?_;intro v o q _
      have:=hs c o (S.nC n c hp e) q
      show cellVal h' c=cellVal s.heap c
      unfold cellVal;rw [this,q]
  | fld n=>
    cases ho:cx.obj with
    | none=>
      rcases hp with hp | ⟨b,hp⟩
      · exact absurd hp (I.nofld ho n)
      · rw [ho] at hp;exact noneE hp
    | some pb=>
      obtain ⟨p,b⟩:=pb
      have hne:act.dx≠d:=fun e=>S.nt (.inl ⟨by rw [ho];rfl,e.symm⟩)
      exact congrFun (nsMap_keep (I.obj p b ho).1.1.1 fun o e=>hs _ _ hne e).2 n
theorem Inv.poke (I:Inv G cx act env g s st) (S:Spare cx act env g s st d) {h':Heap} (hs:Heap.ExtBut d s.heap h') (t:Nat):Inv G cx act env g { s with heap:=h',toks:=t} st where
  gens:=I.gens
  os:=I.os
  base:=I.base
  ext:=⟨I.ext.gg,fun a o e=>by
      have:a≠d:=by rintro rfl;rw [S.gh] at e;exact noneE e
      exact hs a o this (I.gh a o e),fun a o e n=>by
      have:a≠d:=by rintro rfl;have:=S.ab;rw [e] at this;exact noneE' this
      exact hs a o this (I.ext.hh a o e n),I.ext.priv,fun a e=>by
      by_cases had:a=d
      · rw [had];exact S.ab
      · refine I.ext.alive a ?_
        cases q:s.heap.get? a with
        | none=>rfl
        | some o=>
          have:=hs a o had q
          have e:h'.get? a=none:=e
          rw [this] at e;exact noneE' e⟩
  locL:=I.locL
  locG:=I.locG
  locN:=(nsMap_keep I.locN fun o e=>hs _ _ (Ne.symm S.nL) e).1
  len:=I.len
  cell:=fun n hn=>by
    obtain ⟨c,v,e,⟨o,q,r⟩,f⟩:=I.cell n hn
    exact ⟨c,v,e,⟨o,hs c o (S.nC n c (.inl hn) e) q,r⟩,f⟩
  slots:=fun i p sl hp hl=>by
    rw [I.fetch_poke S hs (.inl (List.mem_of_getElem? hp))]
    have:=I.slots i p sl hp hl
    induction sl using Slot.casesOn with
    | unset=>trivial
    | val d=>exact this
    | own l=>
      refine x35 this ?_;(try clear this);intro a vs n e1 e2 e3 e4 e5
      refine ⟨a,vs,n,e1,?_,e3,e4,e5⟩
      have:a≠d:=by rintro rfl;exact S.nt (.inr ⟨i,p,l,hp,hl,e1⟩)
      exact hs a _ this e2
  apart:=fun i j p q l l' hij hp hq hl hl'=>by
    rw [I.fetch_poke S hs (.inl (List.mem_of_getElem? hp)),I.fetch_poke S hs (.inl (List.mem_of_getElem? hq))]
    exact I.apart i j p q l l' hij hp hq hl hl'
  obj:=fun p b hp=>by
    obtain ⟨⟨h1,h2,h3,h4⟩,h5,h6,h7⟩:=I.obj p b hp
    have hne:act.dx≠d:=fun e=>S.nt (.inl ⟨by rw [hp];rfl,e.symm⟩)
    refine ⟨⟨h1.keep fun o e=>hs _ _ hne e,h2,h3,h4⟩,by rw [I.fetch_poke S hs (.inr ⟨b,hp⟩)];exact h5,h6,fun n hn=> ?_⟩
    obtain ⟨c,v,e,⟨o,q,r⟩,f⟩:=h7 n hn
    exact ⟨c,v,e,⟨o,hs c o (S.nC n c (.inr ⟨b,hn ▸ hp⟩) e) q,r⟩,f⟩
  nofld:=I.nofld
  ownC:=I.ownC
theorem Step.poke (T:Step G cx act env g s st g' s' st') (S:Spare cx act env g' s' st' d) (hf:s.heap.get? d=none) {h':Heap} (hs:Heap.ExtBut d s'.heap h') (t:Nat):
    Step G cx act env g s st g' { s' with heap:=h',toks:=t} st'∧((∃ o,h'.get? d=some o)→Spare cx act env g' { s' with heap:=h',toks:=t} st' d):=by
  have I:=T.inv
  have ht:∀ a,Touch cx act env { s' with heap:=h',toks:=t} st' a→Touch cx act env s' st' a:=fun a h=>h.imp id fun ⟨i,p,l,hp,hl,e⟩=>⟨i,p,l,hp,hl,by rw [← e];exact (I.fetch_poke S hs (.inl (List.mem_of_getElem? hp))).symm⟩
  have J:=I.poke S hs t
  refine ⟨⟨J,⟨T.ext.gg,J.gh,fun a o e n=> ?_,T.ext.priv,fun a e=> ?_⟩,fun a h=>T.touch a (ht a h)⟩,fun hl=>⟨hl,S.gh,fun h=>S.nt (ht _ h),S.nL,S.nC,S.ab⟩⟩
  · exact hs a o (live_ne e hf) (T.ext.hh a o e n)
  · by_cases had:a=d
    · rw [had];exact hf
    · refine T.ext.alive a ?_
      cases q:s'.heap.get? a with
      | none=>rfl
      | some o=>
        have:=hs a o had q
        have e:h'.get? a=none:=e
        rw [this] at e;exact noneE' e
theorem Step.freeze (T:Step G cx act env g s st g' s' st') (S:Spare cx act env g' s' st' d) (hf:s.heap.get? d=none) {o:Obj} (e:s'.heap.get? d=some o):
    Step G cx act env g s st (g'.put d o) s' st':=by
  have I:=T.inv
  have le:=Gh.le_put (o:=o) S.gh
  have gh:(g'.put d o).inH s'.heap:=fun b o' q=>by
    unfold Gh.put at q
    by_cases hb:b=d
    · subst hb;rw [if_pos rfl] at q;induction q using someE;exact e
    · rw [if_neg hb] at q;exact I.gh _ _ q
  refine ⟨⟨I.gens,I.os,I.base,⟨I.ext.gg.trans le,gh,I.ext.hh,fun b ob hlt hn hW=> ?_,I.ext.alive⟩,I.locL,?_,I.locN,I.len,fun m hm'=> ?_,fun j q sl hq hs=> ?_,I.apart,fun q b hq=> ?_,I.nofld,I.ownC⟩,
    ⟨T.ext.gg.trans le,gh,T.ext.hh,fun b ob hlt hn hW=> ?_,T.ext.alive⟩,T.touch⟩
  · rw [Gh.put_ne]
    · exact I.ext.priv b ob hlt hn hW
    · rintro rfl;have:=S.ab;rw [hlt] at this;exact noneE' this
  · rw [Gh.put_ne (Ne.symm S.nL)];exact I.locG
  · refine x23 (I.cell m hm') ?_;intro c v e1 e2 e3
    exact ⟨c,v,e1,e2,by rw [Gh.put_ne (S.nC m c (.inl hm') e1)];exact e3⟩
  · have:=I.slots j q sl hq hs
    induction sl using Slot.casesOn with
    | unset=>trivial
    | val d=>refine x12 this ?_;(try clear this);intro v e1 r;exact ⟨v,e1,r.le le⟩
    | own l'=>
      refine x35 this ?_;(try clear this);intro b ws k e1 e2 e3 e4 e5
      refine ⟨b,ws,k,e1,e2,?_,e4,e5.le le⟩
      rw [Gh.put_ne]
      · exact e3
      · rintro rfl;exact S.nt (.inr ⟨j,q,l',hq,hs,e1⟩)
  · obtain ⟨⟨o1,o2,o3,o4⟩,o5,o6,o7⟩:=I.obj q b hq
    have hne:act.dx≠d:=fun e=>S.nt (.inl ⟨by rw [hq];rfl,e.symm⟩)
    refine ⟨⟨o1,by rw [Gh.put_ne hne];exact o2,o3,o4⟩,o5,?_,fun m hm=> ?_⟩
    · induction b using Bool.casesOn
      · exact o6
      · exact le _ _ o6
    · refine x23 (o7 m hm) ?_;intro c v e1 e2 e3
      exact ⟨c,v,e1,e2,by rw [Gh.put_ne (S.nC m c (.inr ⟨b,hm ▸ hq⟩) e1)];exact e3⟩
  · rw [Gh.put_ne]
    · exact T.ext.priv b ob hlt hn hW
    · rintro rfl;rw [hlt] at hf;exact noneE' hf
theorem NewL.of (T:Step G cx act env g s st g' s' st') (S:Spare cx act env g' s' st' d) (hf:s.heap.get? d=none) {vs:List Value} {l:List V} {n:Nat} (e:s'.heap.get? d=some (LstO vs n)) (r:Rels G.prog G.w g' vs l):
    NewL G cx act env g s st d l g' s' st':=⟨T,hf,S.ab,⟨vs,n,e,r⟩,S.gh,S.nt,S.nL⟩
end
end
end Mine
end
section
open PySem PySem.Calls PyProof.Rows PySem.W
set_option maxRecDepth 10000
namespace Mine
section
variable {G:Top0} {N:Nat} {cx:Cx}
noncomputable def SemPs (G:Top0) (N:Nat) (cx:Cx) (pos:Pos) (ps:List (Expr×Expr)) (fs:List (EF×EF)):Prop:=
  ∀ ⦃A env act g s st ks ds st'⦄ ⦃Q:List (Value×Value)→Shared→Prop⦄ ⦃E:Value→Shared→Prop⦄,Ok N cx A env→Inv G cx act env g s st→pairsRun fs st=some ((ks,ds),st')→
  (∀ us g' s',Step G cx act env g s st g' s' st'→ks.length=us.length→Carries (oik G.prog G.w) us ((ks.map some).zip (us.map (·.2)))→Rels G.prog G.w g' (us.map (·.2)) ds→Q us s')→
    wpAny (model G.prog G.w) A (evalPairs (ps.map fun p=>(eval p.1 env,(do let x←eval p.2 env;standAt pos;pure x:Sem Value)))) Q E s
theorem SemPs.nil {pos:Pos}:SemPs G N cx pos [] []:=by
  intro A env act g s st ks ds st' Q E O I hf h
  cases hf using pairE
  exact evalPairs_nil (h [] g s (.refl I) rfl trivial .nil)
theorem SemPs.cons {pos:Pos} {k v:Expr} {ps:List (Expr×Expr)} {fk fv:EF} {fs:List (EF×EF)} (hk:SemE G N cx k fk) (hv:SemE G N cx v fv) (hb:SemPs G N cx pos ps fs):SemPs G N cx pos ((k,v)::ps) ((fk,fv)::fs):=by
  intro A env act g s st ks ds st' Q E O I hf h
  refine bind2 hf ?_;clear hf;intro x st1 e1 hf
  refine bind2 hf ?_;clear hf;intro y st2 e2 hf
  induction x using V.cs <;> try ((first | exact noneE hf | cases hf);done)
  rename_i i
  obtain ⟨⟨⟨ks1,ds1⟩,st3⟩,e3,hf⟩:=opt_bind hf
  cases hf using pairE
  refine evalPairs_cons (hk O I e1 fun kv g1 s1 T1 r1=>wpAny_bind (hv O T1.inv e2 fun u g2 s2 T2 r2=>wpAny_bind (wpAny_standAt (wpAny_pure (hb O T2.inv e3 fun us g3 s3 T3 hl hc hr=> ?_)))))
  cases r1 with | int _ t=>
  refine h _ g3 s3 ((T1.trans T2).trans T3) (by simp [hl]) ⟨by simp [oik,isOI],rfl,hc⟩ (.cons (r2.le T3.gg) hr)
theorem DctAt.of {g:Gh} {h:Heap} {a:Addr} {ks:List Int} {vs:List Value} (hd:h.DictOf (oik G.prog G.w) a ((ks.map some).zip vs)) (hl:ks.length=vs.length) (hs:(a==sysModules)=false):
    ∃ es n,h.get? a=some (DctO es n)∧DctAt G.prog G.w (g.put a (DctO es n)) a ks vs:=by
  obtain ⟨⟨c,dd,data,sl⟩,es,n,e,⟨x1,x2,x3⟩,hd',hk,hp,hn⟩:=hd
  simp only at x1 x2 x3 hd'
  subst x1 x2 x3 hd'
  refine ⟨es,n,e,hs,hl,es,n,Gh.put_self ..,hk,hp,?_⟩
  rw [List.map_fst_zip (by simp [hl])] at hn
  exact hn
theorem Inv.sysLt {act:Act} {env:Env} {g:Gh} {s:Shared} {st:St} (I:Inv G cx act env g s st):(s.heap.objs.size==sysModules)=false:=by
  have:=G.sys _ I.gBh
  rw [beq_eq_false_iff_ne];exact Nat.ne_of_gt this
theorem SemE.dct {ps:List (Expr×Expr)} {fs:List (EF×EF)} {keys:List (Option Expr)} {values:List Expr} {pos:Pos} (ha:SemPs G N cx pos ps fs)
    (hk:keys=ps.map fun p=>some p.1) (hv:values=ps.map (·.2)) (h0:ps≠[]) (hn:ps.length≤15):SemE G N cx (.Dict keys values pos) (eDct fs):=by
  intro A env act g s st d st' Q E O I hf h
  obtain ⟨⟨⟨ks,ds⟩,st1⟩,e1,hf⟩:=opt_bind hf
  dsimp only at hf
  split at hf
  · rename_i hnd
    cases hf using pairE
    have S0:=Spare.new I (o:={ cls:= .type "dict",data:= .dict #[]}) rfl
    have hdd:=dead_end s.heap (Nat.le_refl _)
    have T0:=I.madeU { cls:= .type "dict",data:= .dict #[]}
    subst hk;subst hv
    refine wpAny_Dict_pairs (knd:=oik G.prog G.w) (pairs:=ps.map fun p=>(eval p.1 env,(do let x←eval p.2 env;standAt pos;pure x:Sem Value))) ?_ (by simpa using h0) (by simpa using hn) ?_
    · clear ha h0 hn e1
      induction ps with
      | nil=>rfl
      | cons p r ih=>exact congrArg (List.cons _) ih
    · refine ha O T0.inv e1 fun us g1 s1 T1 hl hc hr=>⟨_,hc,?_,fun h' hd hs=> ?_⟩
      · exact (Heap.DictOf.new s.heap).at fun o e=>S0.keep T1 e
      · have hz:((ks.map some).zip (us.map (·.2))).map (·.1)=ks.map some:=List.map_fst_zip (by simp [hl])
        rw [merged_nil_of_nodup _ (by rw [hz];exact hnd.map some fun a b h e=>h (Option.some.inj e))] at hd
        refine x02 ((T0.trans T1).poke (S0.step T1) hdd hs.extBut (s1.toks+us.length)) ?_;intro T2 S2
        refine x22 (DctAt.of (G:=G) (g:=g1) hd (by simp [hl]) I.sysLt) ?_;intro es n e2 D
        have S2:=S2 ⟨_,e2⟩
        have T3:=T2.freeze S2 hdd e2
        exact h _ _ _ T3 (.dct D (hr.le (Gh.le_put S2.gh)))
  · exact noneE hf
inductive AllE (G:Top0) (N:Nat) (cx:Cx):List (Expr×Expr)→List (EF×EF)→Prop
  | nil:AllE G N cx [] []
  | cons {k v:Expr} {ps:List (Expr×Expr)} {fk fv:EF} {fs:List (EF×EF)}:SemE G N cx k fk→SemE G N cx v fv→AllE G N cx ps fs→AllE G N cx ((k,v)::ps) ((fk,fv)::fs)
theorem stored_fresh {K:Type} [DecidableEq K] {acc:List (K×Value)} {k:K} {v:Value} (h:k ∉ acc.map (·.1)):stored acc k v=acc++[(k,v)]:=by
  unfold stored
  rw [if_neg]
  simp only [List.any_eq_true,not_exists,not_and]
  intro x hx e
  exact h (List.mem_map.mpr ⟨x,hx,by simpa using e⟩)
theorem longRun {A:Around} {env:Env} {act:Act} {pos:Pos} {d:Addr} {g0:Gh} {s0:Shared} {st0:St} {Q:PUnit→Shared→Prop} {E:Value→Shared→Prop} (O:Ok N cx A env) (hf0:s0.heap.get? d=none):
    ∀ {ps:List (Expr×Expr)} {fs:List (EF×EF)},AllE G N cx ps fs→∀ {kacc:List Int} {vacc:List Value} {dacc:List V} {g:Gh} {s:Shared} {st:St} {ks:List Int} {ds:List V} {st':St},Step G cx act env g0 s0 st0 g s st→Spare cx act env g s st d→
      kacc.length=vacc.length→s.heap.DictOf (oik G.prog G.w) d ((kacc.map some).zip vacc)→Rels G.prog G.w g vacc dacc→pairsRun fs st=some ((ks,ds),st')→(kacc++ks).Nodup→kacc.length+ps.length≤100→
      (∀ vs g' s',Step G cx act env g0 s0 st0 g' s' st'→Spare cx act env g' s' st' d→(kacc++ks).length=vs.length→s'.heap.DictOf (oik G.prog G.w) d (((kacc++ks).map some).zip vs)→Rels G.prog G.w g' vs (dacc++ds)→Q ⟨⟩ s')→
      wpAny (model G.prog G.w) A (forIn (ps.map fun p=>(eval p.1 env,(do let x←eval p.2 env;standAt pos;pure x:Sem Value))) PUnit.unit
        (fun (x:Sem Value×Sem Value) (_:PUnit)=>(do let kv←x.1;let vv←holding [kv] x.2;holding [kv,vv] (dictSet d kv vv);pure (ForInStep.yield PUnit.unit):Sem (ForInStep PUnit)))) Q E s:=by
  intro ps fs hall
  induction hall with
  | nil=>
    intro kacc vacc dacc g s st ks ds st' T S hl hd hr e hn _ hQ
    cases e
    rw [List.map_nil,List.forIn_nil]
    exact wpAny_pure (hQ vacc g s T S (by simpa using hl) (by simpa using hd) (by simpa using hr))
  | @cons k v ps fk fv fs hk hv hall ih=>
    intro kacc vacc dacc g s st ks ds st' T S hl hd hr e hn hsz hQ
    obtain ⟨⟨x,st1⟩,e1,e⟩:=opt_bind e
    obtain ⟨⟨y,st2⟩,e2,e⟩:=opt_bind e
    induction x using V.cs <;> try ((first | exact noneE e | cases e);done)
    rename_i i _
    obtain ⟨⟨⟨ks1,ds1⟩,st3⟩,e3,e⟩:=opt_bind e
    cases e
    rw [List.map_cons,List.forIn_cons]
    refine wpAny_bind (wpAny_bind (hk O T.inv e1 fun kv g1 s1 T1 r1=>wpAny_bind (wpAny_holding (wpAny_bind (hv O T1.inv e2 fun u g2 s2 T2 r2=>wpAny_bind (wpAny_standAt (wpAny_pure ?_)))))))
    cases r1 with | int _ t=>
    have S2:=(S.step T1).step T2
    have hfresh:some i ∉ ((kacc.map some).zip vacc).map (·.1):=by
      rw [List.map_fst_zip (by simp [hl])]
      intro hm
      refine x12 (List.mem_map.mp hm) ?_;intro j hj e
      cases (e)
      exact (List.nodup_append.mp hn).2.2 i hj i (by simp) rfl
    have hd2:=hd.at fun o e=>(S.step T1).keep T2 (S.keep T1 e)
    refine wpAny_bind (wpAny_holding (wpAny_dictSet_pairs (knd:=oik G.prog G.w) (k:=some i) (by simp [oik,isOI]) hd2 (fun h' hm hs=> ?_) (hsz:=by simp only [List.length_zip,List.length_map,hl,Nat.min_self];rw [← hl];have:=sizeLine_eq;simp only [List.length_cons] at hsz;lia)))
    rw [stored_fresh hfresh] at hm
    refine x02 (((T.trans T1).trans T2).poke S2 hf0 hs.extBut (s2.toks+1)) ?_;intro T3 S3
    have S3:=S3 (let ⟨o,_,_,e,_⟩:=hm;⟨o,e⟩)
    refine wpAny_pure (ih (kacc:=kacc++[i]) (vacc:=vacc++[u]) (dacc:=dacc++[y]) T3 S3 (by simp [hl]) ?_ ((hr.le (T1.gg.trans T2.gg)).append (.cons r2 .nil)) e3 (by simpa using hn) (by simp at hsz ⊢;lia) ?_)
    · rw [List.map_append,List.zip_append (by simp [hl])];exact hm
    · intro vs g' s' a b c d e
      exact hQ vs g' s' a b (by simpa using c) (by simpa using d) (by simpa using e)
theorem SemE.dctLong {ps:List (Expr×Expr)} {fs:List (EF×EF)} {keys:List (Option Expr)} {values:List Expr} {pos:Pos} (ha:AllE G N cx ps fs)
    (hk:keys=ps.map fun p=>some p.1) (hv:values=ps.map (·.2)) (h1:15<ps.length) (hn:ps.length<17):SemE G N cx (.Dict keys values pos) (eDct fs):=by
  intro A env act g s st d st' Q E O I hf h
  obtain ⟨⟨⟨ks,ds⟩,st1⟩,e1,hf⟩:=opt_bind hf
  dsimp only at hf
  split at hf
  · rename_i hnd
    cases hf using pairE
    have S0:=Spare.new I (o:={ cls:= .type "dict",data:= .dict #[]}) rfl
    have hdd:=dead_end s.heap (Nat.le_refl _)
    have T0:=I.madeU { cls:= .type "dict",data:= .dict #[]}
    subst hk;subst hv
    have hshape:(evalEachOpt (ps.map fun p=>some p.1) env).zip ((evalEach (ps.map (·.2)) env).map fun v=>(do let x←v;standAt pos;pure x:Sem Value))=(ps.map fun p=>(eval p.1 env,(do let x←eval p.2 env;standAt pos;pure x:Sem Value))).map fun p=>(some p.1,p.2):=by
      clear ha h1 hn e1
      induction ps with
      | nil=>rfl
      | cons p r ih=>exact congrArg (List.cons _) ih
    rw [arm_eval_Dict,hshape,dictDisplay_pairs _ (by intro e;rw [List.map_eq_nil_iff] at e;subst e;simp at h1) (by simpa using hn)]
    refine wpAny_bind (wpAny_standAt (wpAny_bind ?_))
    unfold subDict
    refine wpAny_bind (wpAny_alloc (wpAny_bind (wpAny_holding ?_)))
    rw [if_neg (by rw [List.length_map];lia)]
    refine wpAny_bind (wpAny_rule ?_)
    refine wpAny_bind (longRun (G:=G) (pos:=pos) (d:=s.heap.objs.size) O hdd ha (kacc:=[]) (vacc:=[]) (dacc:=[]) T0 S0 rfl (Heap.DictOf.new s.heap) .nil e1 (by simpa using hnd) (by simp;lia) fun vs g' s' T S hl hd hr=> ?_)
    refine x22 (DctAt.of (G:=G) (g:=g') (by simpa using hd) (by simpa using hl) I.sysLt) ?_;intro es n e2 D
    have T3:=T.freeze S hdd e2
    exact wpAny_pure (wpAny_pure (wpAny_pure (h _ _ _ T3 (.dct D (by simpa using hr.le (Gh.le_put S.gh))))))
  · exact noneE hf
theorem seqIx {k:Int} {n:Nat} (h0:0≤k) (h:k.toNat<n):seqIndex? k n=some k.toNat:=by
  unfold seqIndex?
  simp only [show ¬ k<0 by lia,if_false]
  rw [if_pos]
  simp only [Bool.and_eq_true,decide_eq_true_eq]
  lia
theorem SemE.idx {value slice:Expr} {pos:Pos} {a b:EF} (ha:SemE G N cx value a) (hb:SemE G N cx slice b)
    (hs:∀ o i,∃ ops,subscripted slice false o i=operate ops (getItem o i)):SemE G N cx (.Subscript value slice pos) (eIdx a b):=by
  intro A env act g s st d st' Q E O I hf h
  refine bind2 hf ?_;clear hf;intro x st1 e1 hf
  refine bind2 hf ?_;clear hf;intro y st2 e2 hf
  refine bind1 hf ?_;clear hf;intro z e3 hf
  cases hf using pairE
  refine Subscript_ (ha O I e1 fun v g1 s1 T1 r1=>hb O T1.inv e2 fun u g2 s2 T2 r2=> ?_)
  have r1:=r1.le T2.gg
  refine x11 (hs v u) ?_;intro ops hs
  have T:=T1.trans T2
  induction r2 using Rel.cs with
  | int k t=>
    induction r1 using Rel.cs with
    | tup o q=>
      simp only [idxV] at e3
      split at e3
      · rename_i hc
        refine x12 (q.get _ e3) ?_;intro v e4 r
        have hlt:k.toNat<_:=(List.getElem?_eq_some_iff.mp e4).1
        have:=q.length
        have hlim:lim=1000000:=rfl
        refine tail_any (isTup_of (T2.inv.gh _ _ o)).typeIs slot_tuple_getitem.lookup (PyProof.Rows.getItem_tuple (isTup_of (T2.inv.gh _ _ o)) (by lia) (by lia) (j:=k.toNat) (seqIx hc.1 (by simpa using hlt)) (by simpa using e4) (h v g2 s2 T r)) hs
      · exact noneE e3
    | lst o q=>
      simp only [idxV] at e3
      split at e3
      · rename_i hc
        refine x12 (q.get _ e3) ?_;intro v e4 r
        have hlt:k.toNat<_:=(List.getElem?_eq_some_iff.mp e4).1
        have:=q.length
        have hlim:lim=1000000:=rfl
        exact tail_any (isLst_of (T2.inv.gh _ _ o)).typeIs slot_list_getitem.lookup (wpAny_getItem_list (isLst_of (T2.inv.gh _ _ o)) hc.1 (by lia) (by simpa using e4) (h v g2 s2 T r)) hs
      · exact noneE e3
    | dct D q=>
      simp only [idxV] at e3
      have hl:=q.length
      rw [lookI_at k (D.2.1.trans hl)] at e3
      cases e5:List.findIdx? (· ==k) _ with
      | none=>rw [e5] at e3;exact noneE e3
      | some j=>
        rw [e5] at e3
        refine x12 (q.get _ e3) ?_;intro v e4 r
        have hm:=D.map T2.inv.gh
        exact tail_any hm.typeIs slot_dict_getitem.lookup (wpAny_getItem_of (knd:=oik G.prog G.w) (k:=some k) (by simp [oik,isOI]) hm (by rw [zip_at k D.2.1,e5];exact e4) (h v g2 _ (T.trans (T2.inv.stepT _)) r)) hs
    | _=>simp only [idxV] at e3;exact noneE e3
  | _=>induction r1 using Rel.cs <;> simp only [idxV] at e3 <;> exact noneE e3
end
end Mine
end
section
open PySem PySem.Calls PyProof.Rows PySem.W
set_option maxRecDepth 10000
namespace Mine
section
variable {G:Top0} {N:Nat} {cx:Cx}
noncomputable def lo' (n:Nat) (lo:Option Int):Nat:=lo.elim 0 (clipAt n)
noncomputable def hi' (n:Nat) (hi:Option Int):Nat:=hi.elim n (clipAt n)
theorem adjust_gen (lo hi:Option Int) (n:Nat):Builtin.Slice.sliceAdjust lo hi 1 (n:Int)=((lo' n lo:Int),(hi' n hi:Int)):=by
  unfold Builtin.Slice.sliceAdjust
  have h1: ¬ ((1:Int)<0):=by lia
  simp only [h1,if_false]
  congr 1
  · induction lo using Option.casesOn with
    | none=>rfl
    | some i=>show (if i<0 then max (i+n) 0 else min i n)=((clipAt n i:Nat):Int);rw [clipAt_cast];split <;> lia
  · induction hi using Option.casesOn with
    | none=>rfl
    | some i=>show (if i<0 then max (i+n) 0 else min i n)=((clipAt n i:Nat):Int);rw [clipAt_cast];split <;> lia
theorem places_gen (a b:Nat):Builtin.Slice.slicePlaces (a:Int) (b:Int) 1=b - a:=by
  unfold Builtin.Slice.slicePlaces
  have h1:(1:Int)>0:=by lia
  simp only [h1,if_true,Int.ediv_one]
  split <;> lia
theorem slicePart_gen {A:Around} {s:Shared} {v:Value} {i:Option Int} {Q:Option Int→Shared→Prop} {E:Value→Shared→Prop} (p:IsPart v i) (h:Q i s):wpAny (model G.prog G.w) A (Builtin.Slice.slicePartIndex v) Q E s:=by
  cases p with
  | none=>exact slicePart_none h
  | int=>exact slicePart_int h
theorem sliceApplied_gen {A:Around} {s:Shared} {sl:Addr} {n:Nat} {l u:Value} {lo hi:Option Int} {Q:Int×Int×Nat→Shared→Prop} {E:Value→Shared→Prop} (hs:s.heap.IsSliceOf sl l u .none) (pl:IsPart l lo) (pu:IsPart u hi)
    (h:Q ((lo' n lo:Int),1,hi' n hi - lo' n lo) s):wpAny (model G.prog G.w) A (Builtin.Slice.sliceApplied (.ref sl) (pure (n:Int))) Q E s:=by
  refine x13 (id hs) ?_;intro os hos hcs hds
  unfold Builtin.Slice.sliceApplied Builtin.Slice.sliceFields
  refine wpAny_bind (wpAny_bind (wpAny_field hos hds (x:=l) rfl (wpAny_bind (wpAny_field hos hds (x:=u) rfl (wpAny_bind (wpAny_field hos hds (x:= .none) rfl (wpAny_pure ?_)))))))
  refine wpAny_bind (slicePart_none ?_)
  show wpAny _ _ (if ((1:Int)==0)=true then _ else _) _ _ s
  rw [if_neg (by decide)]
  refine wpAny_bind (slicePart_gen pl (wpAny_bind (slicePart_gen pu (wpAny_bind (wpAny_pure ?_)))))
  show wpAny _ _ (match Builtin.Slice.sliceAdjust lo hi 1 (n:Int) with | (lo,hi)=>pure (lo,(1:Int),Builtin.Slice.slicePlaces lo hi 1)) _ _ s
  rw [adjust_gen]
  show wpAny _ _ (pure ((lo' n lo:Int),(1:Int),Builtin.Slice.slicePlaces (lo' n lo:Int) (hi' n hi:Int) 1)) _ _ s
  rw [places_gen]
  exact wpAny_pure h
theorem pick_gen (xs:Array Value) (a n:Nat):((List.range n).filterMap fun (k:Nat)=>xs[((a:Int)+(k:Int)*1).toNat]?).toArray=((xs.toList.drop a).take n).toArray:=by
  have e:(fun (k:Nat)=>xs[((a:Int)+(k:Int)*1).toNat]?)=fun k=>xs[a+k]? :=by
    funext k
    have:((a:Int)+(k:Int)*1).toNat=a+k:=by lia
    rw [this]
  rw [e]
  have:=pick_run xs a n
  rw [List.filterMap_map] at this
  have e2:((fun x=>xs[x]?) ∘ fun x=>a+x)=fun k=>xs[a+k]? :=rfl
  rw [e2] at this
  rw [this]
theorem cut_eq {α:Type} (l:List α) (lo hi:Option Int):cut l lo hi=(l.drop (lo' l.length lo)).take (hi' l.length hi - lo' l.length lo):=rfl
theorem getItem_tuple_slice {A:Around} {s:Shared} {t sl:Addr} {vs:List Value} {k:Nat} {l u:Value} {lo hi:Option Int} {Q E:Value→Shared→Prop} (ht:s.heap.get? t=some (TupO vs k)) (hs:s.heap.IsSliceOf sl l u .none) (pl:IsPart l lo) (pu:IsPart u hi)
    (h0:cut vs lo hi=vs→Q (.ref t) s) (h:Q (.ref s.heap.objs.size) { s with heap:=s.heap.push (TupO (cut vs lo hi) 0)}) (hsz:vs.length≤sizeLine):wpAny (model G.prog G.w) A (getItem (.ref t) (.ref sl)) Q E s:=by
  have hle:(cut vs lo hi).length≤vs.length:=by rw [cut_eq,List.length_take,List.length_drop];lia
  have hok:sizeOk (.seq (cut vs lo hi).toArray):=by
    show (cut vs lo hi).toArray.size≤sizeLine
    rw [List.size_toArray];lia
  refine x13 (id hs) ?_;intro os hos hcs hds
  have hTs:s.TypeIs (.ref sl) "slice":=⟨os,hos,hcs⟩
  have ht':=isTup_of ht
  unfold getItem
  try with_reducible refine wpAny_holding ?_
  first | refine wpAny_bind (wpAny_pure ?_) | skip
  refine wpAny_bind (wpAny_sequenceKey ht'.typeIs (by decide) ?_)
  refine wpAny_bind (wpAny_callSpecial?_slot (name:=Str.ofString "__getitem__") ht'.typeIs slot_tuple_getitem
    (wpAny_call_entry slot_tuple_getitem ht'.typeIs entry_tuple_getitem ?_ (args_tuple_getitem _ _)))
  show wpAny _ _ (Builtin.Tuple.tupleItemsOf (.ref t) >>= _) _ _ s
  refine wpAny_bind (tupleItemsOf_ ht' ?_)
  refine wpAny_bind (wpAny_typeOf hTs ?_)
  rw [if_pos (by decide)]
  refine wpAny_bind (sliceApplied_gen hs pl pu ?_)
  rw [List.size_toArray]
  show wpAny _ _ (if ((lo' vs.length lo:Int)==0 && (1:Int)==1 && (hi' vs.length hi - lo' vs.length lo)==vs.length)=true then _ else _) _ _ s
  by_cases hc:((lo' vs.length lo:Int)==0 && (1:Int)==1 && (hi' vs.length hi - lo' vs.length lo)==vs.length)=true
  · rw [if_pos hc]
    have e:cut vs lo hi=vs:=by
      simp only [Bool.and_eq_true,beq_iff_eq] at hc
      have h1:lo' vs.length lo=0:=by lia
      rw [cut_eq,hc.2,h1];simp
    refine wpAny_bind (m:=Builtin.Tuple.tupleIsExact _) ?_
    unfold Builtin.Tuple.tupleIsExact
    refine wpAny_bind (wpAny_typeOf ht'.typeIs (wpAny_pure ?_))
    rw [if_pos (by decide)]
    exact wpAny_bind (wpAny_rule (wpAny_bind (wpAny_pure (wpAny_pure ⟨_,rfl,wpAny_pure (h0 e)⟩))))
  · rw [if_neg hc,pick_gen]
    rw [cut_eq] at h hok
    first
      | exact wpAny_bind (m:=Builtin.Tuple.tupleExact _) (wpAny_newObj_type (wpAny_pure ⟨_,rfl,wpAny_pure h⟩) hok)
      | exact wpAny_bind (m:=Builtin.Tuple.tupleExact _) (wpAny_newObj_type (wpAny_bind (wpAny_pure (wpAny_pure ⟨_,rfl,wpAny_pure h⟩))) hok)
      | exact wpAny_bind (wpAny_bind (m:=Builtin.Tuple.tupleExact _) (wpAny_newObj_type (wpAny_pure (wpAny_pure ⟨_,rfl,wpAny_pure h⟩)) hok))
      | exact wpAny_bind (wpAny_bind (m:=Builtin.Tuple.tupleExact _) (wpAny_newObj_type (wpAny_pure ⟨_,rfl,wpAny_pure h⟩) hok))
noncomputable def SemO (G:Top0) (N:Nat) (cx:Cx) (e:Option Expr) (f:Option EF):Prop:=∀ ⦃A env act g s st i st'⦄ ⦃Q E:Value→Shared→Prop⦄,Ok N cx A env→Inv G cx act env g s st→opt f st=some (i,st')→
  (∀ v g' s',Step G cx act env g s st g' s' st'→IsPart v i→Q v s')→wpAny (model G.prog G.w) A (evalPart e env) Q E s
theorem SemO.none:SemO G N cx none none:=by
  intro A env act g s st i st' Q E O I hf h
  cases hf using pairE
  exact wpAny_evalPart_none (h _ g s (.refl I) .none)
theorem SemO.some {e:Expr} {f:EF} (ha:SemE G N cx e f):SemO G N cx (some e) (some f):=by
  intro A env act g s st i st' Q E O I hf h
  refine bind2 hf ?_;clear hf;intro x st1 e1 hf
  induction x using V.cs <;> try ((first | exact noneE hf | induction hf using pairE);done)
  cases hf using pairE
  refine wpAny_evalPart_some (ha O I e1 fun v g1 s1 T1 r1=> ?_)
  cases r1
  exact h _ g1 s1 T1 (.int _ _)
theorem slice_any {A:Around} {env:Env} {act:Act} {g:Gh} {s:Shared} {st st1 st2 st3:St} {x:V} {i j:Option Int} {value:Expr} {lo hi:Option Expr} {p pos:Pos} {a:EF} {f f':Option EF} {Q E:Value→Shared→Prop}
    (ha:SemE G N cx value a) (hl:SemO G N cx lo f) (hu:SemO G N cx hi f') (O:Ok N cx A env) (I:Inv G cx act env g s st) (e1:a st=some (x,st1)) (e2:opt f st1=some (i,st2)) (e3:opt f' st2=some (j,st3))
    (h:∀ o l u sl g' s',Step G cx act env g s st g' s' st3→Rel G.prog G.w g' o x→IsPart l i→IsPart u j→s'.heap.IsSliceOf sl l u .none→
      ∃ T id,s'.TypeIs o T∧typeLookup (.type T) "__getitem__"=pure (some (.builtin id))∧wpAny (model G.prog G.w) A (getItem o (.ref sl)) Q E s'):
    wpAny (model G.prog G.w) A (eval (.Subscript value (.Slice lo hi Option.none p) pos) env) Q E s:=by
  refine Subscript_ (ha O I e1 fun v g1 s1 T1 r1=>wpAny_Slice (hl O T1.inv e2 fun l g2 s2 T2 p2=>hu O T2.inv e3 fun u g3 s3 T3 p3=>wpAny_evalPart_none ?_))
  have T4:=T3.inv.madeU { cls:= .type "slice",data:= .fields #[l,u,.none]}
  refine x23 (h v l u _ g3 _ (((T1.trans T2).trans T3).trans T4) ((r1.le T2.gg).le T3.gg) p2 p3 (Heap.IsSliceOf.new _ _ _ _)) ?_;intro T id hT hL hg
  exact tail_any hT hL hg (ops:=[.ref s3.heap.objs.size,v]) rfl
theorem Rels.cut {g:Gh} {vs ds} (q:Rels G.prog G.w g vs ds) (i j:Option Int):Rels G.prog G.w g (Mine.cut vs i j) (Mine.cut ds i j):=by
  rw [cut_eq,cut_eq,← q.length];exact (q.drop _).take _
theorem SemE.slc {value:Expr} {lo hi:Option Expr} {p pos:Pos} {a:EF} {f f':Option EF} (ha:SemE G N cx value a) (hl:SemO G N cx lo f) (hu:SemO G N cx hi f'):SemE G N cx (.Subscript value (.Slice lo hi Option.none p) pos) (eSlc a f f'):=by
  intro A env act g s st d st' Q E O I hf h
  refine bind2 hf ?_;clear hf;intro x st1 e1 hf
  refine bind2 hf ?_;clear hf;intro i st2 e2 hf
  refine bind2 hf ?_;clear hf;intro j st3 e3 hf
  refine bind1 hf ?_;clear hf;intro z e4 hf
  cases hf using pairE
  refine slice_any ha hl hu O I e1 e2 e3 fun o l u sl g1 s1 T r p2 p3 hs=> ?_
  have:=lim_le
  unfold slcV at e4
  split at e4
  · induction r using Rel.cs with
    | @tup a n vs ds ho q=>
      dsimp only at e4
      split at e4
      · rename_i hc
        induction e4 using someE
        have hl:=q.length
        have hg:=T.inv.gh _ _ ho
        refine ⟨"tuple",_,(isTup_of hg).typeIs,slot_tuple_getitem.lookup,getItem_tuple_slice hg hs p2 p3 (fun e=>h _ _ _ T ?_) ?_ (by lia)⟩
        · refine .tup ho ?_
          have q':=q.cut i j
          rw [e] at q';exact q'
        · have T':=T.inv.made (o:=TupO (cut vs i j) 0) rfl
          exact h _ _ _ (T.trans T') (.tup (Gh.put_self ..) ((q.cut i j).le T'.gg))
      · exact noneE e4
    | @bytes b t bl hb=>
      dsimp only at e4
      split at e4
      · rename_i hc
        induction e4 using someE
        subst hb
        refine ⟨"bytes",_,typeIs_bytes _ _ _,FB.slot_bytes_getitem.lookup,getItem_meets (typeIs_bytes _ _ _) (by decide) FB.slot_bytes_getitem FB.entry_bytes_getitem (FB.args_bytes_getitem_2 _ _) (KBc.meets_slice2 b t _ p2 p3) ⟨hs,?_,fun t' k=> ?_⟩⟩
        · have:=KBc.size_picked_le b i j
          simp only [Array.length_toList] at hc
          lia
        · refine h _ g1 _ (T.trans (T.inv.stepT k)) (.bytes ?_)
          rw [KBc.picked_eq,cut];simp
      · exact noneE e4
    | _=>exact noneE e4
  · exact noneE e4
theorem SemL.slc {value:Expr} {lo hi:Option Expr} {p pos:Pos} {a:EF} {f f':Option EF} (ha:SemE G N cx value a) (hl:SemO G N cx lo f) (hu:SemO G N cx hi f'):SemL G N cx (.Subscript value (.Slice lo hi Option.none p) pos) (lSlc a f f'):=by
  intro A env act g s st d st' Q E O I hf h
  refine bind2 hf ?_;clear hf;intro x st1 e1 hf
  refine bind2 hf ?_;clear hf;intro i st2 e2 hf
  refine bind2 hf ?_;clear hf;intro j st3 e3 hf
  induction x using V.cs <;> try ((first | exact noneE hf | cases hf);done)
  dsimp only at hf
  split at hf
  · rename_i hc
    cases hf using pairE
    refine slice_any ha hl hu O I e1 e2 e3 fun o l u sl g1 s1 T r p2 p3 hs=> ?_
    have:=lim_le
    cases r with | @lst a n vs _ ho q=>
    have hl:=q.length
    have hg:=T.inv.gh _ _ ho
    simp only [Bool.and_eq_true,decide_eq_true_eq] at hc
    refine ⟨"list",_,(isLst_of hg).typeIs,slot_list_getitem.lookup,wpAny_getItem_list_slice (isLst_of hg) hs p2 p3 .none (by simp) ?_ (by rw [List.size_toArray];lia)⟩
    rw [slicePick_plain,List.size_toArray]
    exact h _ _ _ (NewL.made (n:=0) T (q.cut i j))
  · exact noneE hf
theorem SemL.rev {value:Expr} {k:Nat} {p p2 p3 pos:Pos} {a:EF} (ha:SemE G N cx value a):SemL G N cx (.Subscript value (.Slice Option.none Option.none (some (.UnaryOp .USub (.Constant (.int 1) k p3) p2)) p) pos) (lRev a):=by
  intro A env act g s st d st' Q E O I hf h
  refine bind2 hf ?_;clear hf;intro x st1 e1 hf
  induction x using V.cs <;> try ((first | exact noneE hf | cases hf);done)
  dsimp only at hf
  split at hf
  · rename_i hc
    cases hf using pairE
    refine Subscript_ (ha O I e1 fun v g1 s1 T1 r1=>wpAny_Slice (wpAny_evalPart_none (wpAny_evalPart_none (wpAny_evalPart_some (wpAny_UnaryOp (wpAny_Constant_int (P.neg_int ?_)))))))
    have Ta:=T1.inv.stepT (s1.toks+1+1)
    have T4:=Ta.inv.madeU { cls:= .type "slice",data:= .fields #[Value.none,.none,.int (-1) (s1.toks+1)]}
    have T:=(T1.trans Ta).trans T4
    have:=lim_le
    cases r1 with | @lst a n vs _ ho q=>
    have hg:=T4.inv.gh _ _ ho
    have hl:=q.length
    refine tail_any (isLst_of hg).typeIs slot_list_getitem.lookup (wpAny_getItem_list_slice (isLst_of hg) (Heap.IsSliceOf.new _ _ _ _) .none .none (.int _ _) (by simp) ?_ (by rw [List.size_toArray];lia)) (ops:=[.ref a,.ref s1.heap.objs.size]) rfl
    rw [krv_pick]
    have q':=q.reverse
    exact h _ _ _ (NewL.made (n:=0) T q')
  · exact noneE hf
end
end Mine
end
section
open PySem PySem.Calls PyProof.Rows PySem.W
set_option maxRecDepth 10000
namespace Mine
section
variable {G:Top0} {N:Nat} {cx:Cx}
structure AOk (N:Nat) (A:Around):Prop where
  handled:A.handled=none
  depth:A.depth+N<recursionLimit
  units:A.units+20*N+20<cLine
theorem Ok.aok {A:Around} {env:Env} (O:Ok N cx A env):AOk N A:=⟨O.handled,O.depth,O.units⟩
theorem AOk.mono {M:Nat} {A:Around} (O:AOk N A) (h:M≤N):AOk M A:=⟨O.handled,by have:=O.depth;lia,by have:=O.units;lia⟩
noncomputable def CallV (G:Top0) (N:Nat) (a:Addr) (k:Nat) (F:List V→Option V):Prop:=∀ ⦃A:Around⦄ ⦃g:Gh⦄ ⦃s:Shared⦄ ⦃vs:List Value⦄ ⦃ds:List V⦄ ⦃d:V⦄ ⦃R:Result→Shared→Prop⦄,AOk N A→G.gB.le g→g.inH s.heap→Rels G.prog G.w g vs ds→ds.length=k→F ds=some d→
  (∀ v g' s',Ext g s.heap g' s'.heap→s'.gens=s.gens→s'.os=s.os→Rel G.prog G.w g' v d→R (.ok (.ret v)) s')→codeAny (model G.prog G.w) A (.call (.ref a) ⟨vs,[]⟩) R s
theorem SemE.callN {n:Str} {p pos:Pos} {e:Expr} {r:List Expr} {fs:List EF} {a:Addr} {o:Obj} {fd:FuncData} {k M:Nat} {F:List V→Option V} (hn:G.mg n=some (.ref a)) (ho:G.gB a=some o) (hd:o.data= .func fd)
    (hC:CallV G M a k F) (hM:M≤N) (ha:SemEs G N cx (e::r) fs) (hl:fs.length=k) (he:isStarred e=false) (hk:cx.sc.names.lookup n=some .globalImplicit) (hdb:(n==("__debug__":Str))=false):
    SemE G N cx (.Call (.Name n p) (e::r) [] pos) (eCall F fs):=by
  intro A env act g s st d st' Q E O I hf h
  refine bind2 hf ?_;clear hf;intro xs st1 e1 hf
  refine bind1 hf ?_;clear hf;intro z e2 hf
  cases hf using pairE
  refine wpAny_Call_NameR (Name_function_global (by rw [O.sc];exact O.kind) (by unfold Env.kindOf;rw [O.sc];exact hk) (loadGlobal_global (O.glob ▸ G.g _ I.gBh) hn ?_) hdb)
  refine callWith_function (o:=o) (fd:=fd) ?_
  rw [starEach_plain he]
  refine evalArgs_plain ?_
  have:=ha (pos:=pos) (E:=E) (Q:=fun vs s'=>(s'.heap.get? a=some o∧o.data= .func fd)∧wpAny (model G.prog G.w) A (PySem.call (.ref a) ([]++vs) []) Q E s') O I e1 fun vs g1 s1 T r=>
    ⟨⟨T.inv.gBh _ _ ho,hd⟩,wpAny_call (hC (O.aok.mono hM) T.inv.gBg T.inv.gh r ((evs_length e1).trans hl) e2 fun v g2 s2 X x1 x2 r2=>h v g2 s2 (T.trans (T.inv.step X x1 x2)) r2)⟩
  rw [starEach_plain he] at this
  exact this
theorem SemE.call0 {n:Str} {p pos:Pos} {a:Addr} {o:Obj} {fd:FuncData} {M:Nat} {F:List V→Option V} (hn:G.mg n=some (.ref a)) (ho:G.gB a=some o) (hd:o.data= .func fd)
    (hC:CallV G M a 0 F) (hM:M≤N) (hk:cx.sc.names.lookup n=some .globalImplicit) (hdb:(n==("__debug__":Str))=false):
    SemE G N cx (.Call (.Name n p) [] [] pos) (eCall F []):=by
  intro A env act g s st d st' Q E O I hf h
  refine bind1 hf ?_;clear hf;intro z0 e1 hf
  induction e1 using someE
  refine bind1 hf ?_;clear hf;intro z e2 hf
  cases hf using pairE
  refine wpAny_Call_NameR (Name_function_global (by rw [O.sc];exact O.kind) (by unfold Env.kindOf;rw [O.sc];exact hk) (loadGlobal_global (O.glob ▸ G.g _ I.gBh) hn ?_) hdb)
  refine callWith_function (o:=o) (fd:=fd) (PySem.evalArgs_none ⟨⟨I.gBh _ _ ho,hd⟩,wpAny_call (hC (O.aok.mono hM) I.gBg I.gh .nil rfl e2 fun v g2 s2 X x1 x2 r2=>h v g2 s2 (I.step X x1 x2) r2)⟩)
theorem enter {A:Around} {s:Shared} {R:Result→Shared→Prop} {a:Addr} {o:Obj} {fd:FuncData} {body:List Stmt} {args:Args} {binds:List (Str×Value)}
    (hroom:A.depth<recursionLimit) (ho:s.heap.get? a=some o) (hdata:o.data= .func fd) (hlim:s.heap.NoLimit) (hcd:s.heap.CodeRec fd.code fd.qualname)
    (hbody:fd.body= .stmts body) (hbind:BindsTo s fd args binds) (hclo:fd.closure=[])
    (hkind:∀ x∈binds,fd.scope.names.lookup x.1=some .local∨(fd.scope.names.lookup x.1=some .cell∧((cellsFrom (s.heap.objs.size+1) fd.scope.names []).lookup x.1).isSome=true))
    (h:∀ s₁,InCallC s (callEnvC fd s.heap.objs.size a).locals (bindL (callEnvC fd s.heap.objs.size a).kindOf binds fun _=>none) (callEnvC fd s.heap.objs.size a).cells
        (bindC (callEnvC fd s.heap.objs.size a).kindOf binds fun _=>none) s₁→
      wpAny (model G.prog G.w) (A.deeper (callEnvC fd s.heap.objs.size a)) (execs body (callEnvC fd s.heap.objs.size a)) (fun f s'=>R (.ok (.ret (match f with | .ret v=>v | _=> .none))) s')
        (fun e s'=>wpAny (model G.prog G.w) (A.deeper (callEnvC fd s.heap.objs.size a)) (leaving (callEnvC fd s.heap.objs.size a) e) (fun _ s''=>R (.error e) s'') (fun e' s''=>R (.error e') s'') s') s₁)
    (hco:fd.scope.isCoroutine=false) (hgen:fd.scope.isGenerator=false) (hk:fd.scope.kind= .function):
    codeAny (model G.prog G.w) A (.call (.ref a) args) R s:=by
  refine codeAny_call_function hroom ho hdata hco hgen hbody hcd (hbind _ _ _ _ ?_)
  rw [hclo]
  refine wpAny_newFunctionEnv_cells hk hkind fun env he s' x=> ?_
  subst he
  exact ⟨hlim.keeps x.toInCall.keep,codeAny_func (h s' x)⟩
theorem bindL_notin (k:Str→Option NameKind) (n:Str):∀ (bs:List (Str×Value)) (m:Str→Option Value),n ∉ bs.map (·.1)→bindL k bs m n=m n
  | [],_,_=>rfl
  | (x,v)::r,m,h=>by
    simp only [List.map_cons,List.mem_cons,not_or] at h
    unfold bindL
    rw [bindL_notin k n r _ h.2]
    split
    · exact if_neg h.1
    · rfl
theorem bindC_notin (k:Str→Option NameKind) (n:Str):∀ (bs:List (Str×Value)) (m:Str→Option Value),n ∉ bs.map (·.1)→bindC k bs m n=m n
  | [],_,_=>rfl
  | (x,v)::r,m,h=>by
    simp only [List.map_cons,List.mem_cons,not_or] at h
    unfold bindC
    rw [bindC_notin k n r _ h.2]
    split
    · rfl
    · exact if_neg h.1
theorem bindL_at (k:Str→Option NameKind) {n:Str} {v:Value} (hk:k n=some .local):∀ {bs:List (Str×Value)} {m:Str→Option Value} {i:Nat},(bs.map (·.1)).Nodup→bs[i]? =some (n,v)→bindL k bs m n=some v
  | (x,u)::r,m,0,hn,e=>by
    cases (e)
    simp only [List.map_cons,List.nodup_cons] at hn
    unfold bindL
    rw [bindL_notin k n r _ hn.1,if_pos hk];exact if_pos rfl
  | (x,u)::r,m,i+1,hn,e=>by
    simp only [List.map_cons,List.nodup_cons] at hn
    unfold bindL
    exact bindL_at k hk (i:=i) hn.2 (by simpa using e)
theorem bindC_at (k:Str→Option NameKind) {n:Str} {v:Value} (hk:k n=some .cell):∀ {bs:List (Str×Value)} {m:Str→Option Value} {i:Nat},(bs.map (·.1)).Nodup→bs[i]? =some (n,v)→bindC k bs m n=some v
  | (x,u)::r,m,0,hn,e=>by
    cases (e)
    simp only [List.map_cons,List.nodup_cons] at hn
    unfold bindC
    rw [bindC_notin k n r _ hn.1,if_neg (by rw [hk];decide)];exact if_pos rfl
  | (x,u)::r,m,i+1,hn,e=>by
    simp only [List.map_cons,List.nodup_cons] at hn
    unfold bindC
    exact bindC_at k hk (i:=i) hn.2 (by simpa using e)
structure FnOk (fd:FuncData) (cx:Cx) (pn:List Str) (body:List Stmt):Prop where
  hbody:fd.body= .stmts body
  hclo:fd.closure=[]
  hglob:fd.globals=mainGlobals
  hbi:fd.builtins=builtinsNs
  hsc:cx.sc=fd.scope
  hco:fd.scope.isCoroutine=false
  hgen:fd.scope.isGenerator=false
  hk:fd.scope.kind= .function
  nodup:cx.places.Nodup
  pnd:pn.Nodup
  hpn:pn.length≤cx.places.length
  pl:∀ (i:Nat) (n:Str),pn[i]? =some n→(cx.places[i]? =some (.loc n)∧fd.scope.names.lookup n=some .local)∨(cx.places[i]? =some (.cell n)∧fd.scope.names.lookup n=some .cell)
  cells:∀ n,Loc.cell n∈cx.places→fd.scope.names.lookup n=some .cell
theorem nsMap_of {h:Heap} {a:Addr} {m:Str→Option Value} (x:h.Ns a m):h.isNs a=true∧h.nsMap a=m:=by
  refine ⟨?_,x.eq_nsMap.symm⟩
  refine x34 x ?_;(try clear x);intro o es ep e d k _
  unfold Heap.isNs
  rw [e];dsimp only;rw [d];dsimp only
  rw [Array.all_eq_true_iff_forall_mem]
  intro x hx
  refine x21 (k x hx) ?_;intro n t q
  rw [q]
theorem entrySlots {fd:FuncData} {pn:List Str} {body:List Stmt} {act:Act} {g:Gh} {s s₁:Shared} {L a:Addr} {vs:List Value} {ds:List V} (K:FnOk fd cx pn body) (hL:L=s.heap.objs.size)
    (x:InCallC s (callEnvC fd L a).locals (bindL (callEnvC fd L a).kindOf (pn.zip vs) fun _=>none) (callEnvC fd L a).cells (bindC (callEnvC fd L a).kindOf (pn.zip vs) fun _=>none) s₁)
    (hl:pn.length=vs.length) (r:Rels G.prog G.w g vs ds):
    ∀ (i:Nat) (p:Loc) (d:V),cx.places[i]? =some p→ds[i]? =some d→∃ v,fetch s₁.heap (callEnvC fd L a) act.dx p=some v∧Rel G.prog G.w g v d:=by
  intro i p d hp hd
  refine x12 (r.get i hd) ?_;intro v hv hr
  have hi:i<pn.length:=by rw [hl];exact (List.getElem?_eq_some_iff.mp hv).1
  have hz:(pn.zip vs).map (·.1)=pn:=List.map_fst_zip (by lia)
  have hb:(pn.zip vs)[i]? =some (pn[i],v):=by
    rw [List.getElem?_zip_eq_some]
    exact ⟨by simp [hi],hv⟩
  refine ⟨v,?_,hr⟩
  rcases K.pl i pn[i] (by simp [hi]) with ⟨h1,h2⟩ | ⟨h1,h2⟩
  · rw [hp] at h1;cases h1
    show s₁.heap.nsMap (callEnvC fd L a).locals pn[i]=some v
    rw [(nsMap_of x.toInCall.ns).2]
    exact bindL_at _ h2 (by rw [hz];exact K.pnd) hb
  · rw [hp] at h1;cases h1
    have hs:=cellsFrom_some fd.scope.names (L+1) [] (.inl h2)
    refine x11 (Option.isSome_iff_exists.mp hs) ?_;intro c hc
    show (match (cellsFrom (L+1) fd.scope.names []).lookup pn[i] with | some c=>cellVal s₁.heap c | none=>none)=some v
    rw [hc]
    have:=x.cell _ c hc
    refine (cellVal_of this).trans ?_
    exact bindC_at _ h2 (by rw [hz];exact K.pnd) hb
theorem bindKinds {fd:FuncData} {pn:List Str} {body:List Stmt} {vs:List Value} {n:Nat} (K:FnOk fd cx pn body):∀ x∈pn.zip vs,fd.scope.names.lookup x.1=some .local∨(fd.scope.names.lookup x.1=some .cell∧((cellsFrom n fd.scope.names []).lookup x.1).isSome=true):=by
  rintro ⟨x,v⟩ hx
  refine x11 (List.mem_iff_getElem?.mp (List.of_mem_zip hx).1) ?_;intro i hi
  rcases K.pl i x hi with ⟨_,h⟩ | ⟨_,h⟩
  · exact .inl h
  · exact .inr ⟨h,cellsFrom_some _ _ _ (.inl h)⟩
noncomputable def st0 (n:Nat) (ds:List V):St:=ds.map .val++List.replicate (n - ds.length) .unset
theorem st0_get {n:Nat} {ds:List V} {i:Nat} {sl:Slot} (h:(st0 n ds)[i]? =some sl):(∃ d,ds[i]? =some d∧sl= .val d)∨sl= .unset:=by
  unfold st0 at h
  by_cases hi:i<ds.length
  · rw [List.getElem?_append_left (by simpa using hi)] at h
    rw [List.getElem?_map] at h
    refine x12 (Option.map_eq_some_iff.mp h) ?_;intro d e hq2;subst hq2
    exact .inl ⟨d,e,rfl⟩
  · rw [List.getElem?_append_right (by simpa using hi)] at h
    have:=List.mem_of_getElem? h
    exact .inr (List.eq_of_mem_replicate this)
theorem CallV.mk {a:Addr} {o:Obj} {fd:FuncData} {pn:List Str} {body:List Stmt} {f:SF} {k:Nat} {ws:List Value} {es:List V} (ho:G.gB a=some o) (hd:o.data= .func fd) (K:FnOk fd cx pn body)
    (hof:cx.obj=none) (hnf:∀ n,Loc.fld n ∉ cx.places) (hcd:∀ h,G.gB.inH h→h.CodeRec fd.code fd.qualname) (hw:Rels G.prog G.w G.gB ws es) (hkl:pn.length=k+ws.length)
    (hbind:∀ s vs,G.gB.inH s.heap→vs.length=k→BindsTo s fd ⟨vs,[]⟩ (pn.zip (vs++ws))) (hS:SemW G N cx body f):
    CallV G (N+1) a k (fun xs=>runV cx.places.length f (xs++es)):=by
  intro A g s vs ds d R O hB hg r hk e h
  have hlv:vs.length=k:=r.length.trans hk
  have hBh:G.gB.inH s.heap:=fun a o q=>hg a o (hB a o q)
  have hl:pn.length=(vs++ws).length:=by rw [List.length_append,hlv];exact hkl
  have r':Rels G.prog G.w g (vs++ws) (ds++es):=r.append (hw.le hB)
  obtain ⟨⟨b,st'⟩,e1,e2⟩:=opt_bind (x:=f (st0 cx.places.length (ds++es))) (by exact e)
  refine enter (by have:=O.depth;lia) (hBh _ _ ho) hd (G.lim _ hBh) (hcd _ hBh) K.hbody (hbind s vs hBh hlv) K.hclo (bindKinds K) (fun s₁ x=> ?_) K.hco K.hgen K.hk
  refine x21 x.toInCall.same ?_;intro h₁ tk hs₁
  let act:Act:=⟨g,s.heap,fun _=>False,s.gens,s.os,0,0⟩
  let env:=callEnvC fd s.heap.objs.size a
  have hfr:=x.toInCall.fresh
  have hgl:∀ b,s.heap.objs.size≤b→g b=none:=fun b hb=>Gh.fresh hg (dead_end _ hb)
  have I:Inv G cx act env g s₁ (st0 cx.places.length (ds++es)):=by
    refine ⟨by rw [hs₁],by rw [hs₁],hB,⟨.refl _,fun a o q=>x.toInCall.keep a o (hg a o q),fun a o q _=>x.toInCall.keep a o q,fun _ _ _ q _=>q,dead_of_keep x.toInCall.keep⟩,dead_end _ (Nat.le_refl _),hgl _ (Nat.le_refl _),(nsMap_of x.toInCall.ns).1,?_,fun n hn=> ?_,fun i p sl hp hs=> ?_,fun i j p q l l' _ _ _ hl _=> ?_,fun p b hp=> ?_,fun _=>hnf,fun _ n c e=>dead_end _ (Nat.le_trans hfr (Nat.le_of_lt (x.above n c (mem_of_lookup e))))⟩
    · have:(ds++es).length≤cx.places.length:=by rw [← r'.length,← hl];exact K.hpn
      simp only [st0,List.length_append,List.length_map,List.length_replicate] at this ⊢
      lia
    · have hs:=cellsFrom_some fd.scope.names (s.heap.objs.size+1) [] (.inl (K.cells n hn))
      refine x11 (Option.isSome_iff_exists.mp hs) ?_;intro c hc
      exact ⟨c,_,hc,x.cell n c hc,hgl c (Nat.le_trans hfr (Nat.le_of_lt (x.above n c (mem_of_lookup hc))))⟩
    · rcases st0_get hs with ⟨d,e,rfl⟩ | rfl
      · exact entrySlots K rfl x hl r' i p d hp e
      · trivial
    · rcases st0_get hl with ⟨d,e,q⟩ | q <;> cases q
    · rw [hof] at hp;exact noneE hp
  have O':Ok N cx (A.deeper env) env:=⟨K.hsc.symm,by rw [K.hsc];exact K.hk,K.hglob,K.hbi,O.handled,by have:=O.depth;show A.depth+1+N<_;lia,by have:=O.units;show A.units+3+20*N+20<_;lia,K.nodup,(fun p b hp=>by rw [hof] at hp;exact noneE hp),x.apart⟩
  refine hS O' I e1 fun fl g' s' X y1 y2 hr=> ?_
  induction b using Fl.casesOn with
  | next=>
    cases fl <;> try (exact hr.elim)
    induction e2 using someE
    exact h _ g' s' X y1 y2 .none
  | ret d'=>
    cases fl <;> try (exact hr.elim)
    induction e2 using someE
    exact h _ g' s' X y1 y2 hr
end
end Mine
end
section
open PySem PySem.Calls PyProof.Rows PySem.W
set_option maxRecDepth 10000
namespace Mine
section
variable {G:Top0} {N:Nat} {cx:Cx} {act:Act} {env:Env} {g g':Gh} {s s':Shared} {st st':St} {A:Around}
theorem places_ne {cx:Cx} (hn:cx.places.Nodup) {i j:Nat} {p q:Loc} (hp:cx.places[i]? =some p) (hq:cx.places[j]? =some q) (hij:i≠j):p≠q:=by
  rintro rfl
  refine x11 (List.getElem?_eq_some_iff.mp hp) ?_;intro h1 e1
  refine x11 (List.getElem?_eq_some_iff.mp hq) ?_;intro h2 e2
  exact hij ((List.getElem_inj hn).mp (e1.trans e2.symm))
theorem Inv.put (I:Inv G cx act env g s st) (hnd:cx.places.Nodup) {i:Nat} {p:Loc} {v:Value} {sl:Slot} {c:Addr} {h':Heap} (t:Nat) (hp:cx.places[i]? =some p)
    (hs:Heap.SameBut c s.heap h') (hc:g c=none) (hcE:act.hE.get? c=none∨act.W c) (hcl:∃ o,h'.get? c=some o)
    (hf:fetch h' env act.dx p=some v) (hq:∀ q,q≠p→(q∈cx.places∨∃ b,cx.obj=some (q,b))→fetch h' env act.dx q=fetch s.heap env act.dx q)
    (hN:h'.isNs env.locals=true) (hC:∀ n k v,(Loc.cell n∈cx.places∨∃ b,cx.obj=some (.cell n,b))→env.cells.lookup n=some k→s.heap.IsCell k v→∃ v',h'.IsCell k v') (hD:∀ q b,cx.obj=some (q,b)→IsD G b s.heap act.dx→IsD G b h' act.dx) (hlst:∀ a vs n,s.heap.get? a=some (LstO vs n)→a≠c)
    (hob:∀ b,cx.obj≠some (p,b))
    (hsl:SlotOk G act g h' (some v) sl) (hown:∀ l,sl= .own l→∀ (j:Nat) (q:Loc) (l':List V),j≠i→cx.places[j]? =some q→st[j]? =some (.own l')→fetch s.heap env act.dx q≠some v):
    Inv G cx act env g { s with heap:=h',toks:=t} (st.set i sl) where
  gens:=I.gens
  os:=I.os
  base:=I.base
  ext:=⟨I.ext.gg,fun a o e=>by
      have:a≠c:=by rintro rfl;rw [hc] at e;exact noneE e
      exact (hs.2 a this).trans (I.gh a o e),fun a o e n=>by
      have:a≠c:=by rintro rfl;exact hcE.elim (fun l=>by rw [e] at l;exact noneE' l) n
      exact (hs.2 a this).trans (I.ext.hh a o e n),I.ext.priv,fun a e=>by
      refine I.ext.alive a ?_
      by_cases hac:a=c
      · refine x11 hcl ?_;(try clear hcl);intro o q
        have e:h'.get? a=none:=e
        rw [hac,q] at e;exact noneE' e
      · have e:h'.get? a=none:=e
        rw [hs.2 a hac] at e;exact e⟩
  locL:=I.locL
  locG:=I.locG
  locN:=hN
  len:=by rw [List.length_set];exact I.len
  cell:=fun n hn=>by
    refine x23 (I.cell n hn) ?_;intro k v e q f
    refine x11 (hC n k v (.inl hn) e q) ?_;intro v' q'
    exact ⟨k,v',e,q',f⟩
  slots:=fun j q sl' hj hl=>by
    rcases get_set hl with ⟨rfl,rfl,_⟩ | ⟨hne,hl⟩
    · rw [hp] at hj;induction hj using someE
      show SlotOk G act g h' (fetch h' env act.dx p) sl'
      rw [hf];exact hsl
    · show SlotOk G act g h' (fetch h' env act.dx q) sl'
      rw [hq q (Ne.symm (places_ne hnd hp hj hne)) (.inl (List.mem_of_getElem? hj))]
      have:=I.slots j q sl' hj hl
      induction sl' using Slot.casesOn with
      | unset=>trivial
      | val d=>exact this
      | own l=>
        refine x35 this ?_;(try clear this);intro a vs n e1 e2 e3 e4 e5
        exact ⟨a,vs,n,e1,(hs.2 a (hlst a vs n e2)).trans e2,e3,e4,e5⟩
  apart:=fun j k q q' l l' hjk hq1 hq2 h1 h2=>by
    show fetch h' env act.dx q≠fetch h' env act.dx q'
    rcases get_set h1 with ⟨rfl,h1,_⟩ | ⟨hne1,h1⟩
    · rw [hp] at hq1;induction hq1 using someE
      rcases get_set h2 with ⟨rfl,h2,_⟩ | ⟨hne2,h2⟩
      · exact absurd rfl hjk
      · rw [hf,hq q' (Ne.symm (places_ne hnd hp hq2 hne2)) (.inl (List.mem_of_getElem? hq2))]
        exact fun e=>hown l h1.symm k q' l' (Ne.symm hne2) hq2 h2 e.symm
    · rcases get_set h2 with ⟨rfl,h2,_⟩ | ⟨hne2,h2⟩
      · rw [hp] at hq2;induction hq2 using someE
        rw [hf,hq q (Ne.symm (places_ne hnd hp hq1 hne1)) (.inl (List.mem_of_getElem? hq1))]
        exact hown l' h2.symm j q l (Ne.symm hne1) hq1 h1
      · rw [hq q (Ne.symm (places_ne hnd hp hq1 hne1)) (.inl (List.mem_of_getElem? hq1)),hq q' (Ne.symm (places_ne hnd hp hq2 hne2)) (.inl (List.mem_of_getElem? hq2))]
        exact I.apart j k q q' l l' hjk hq1 hq2 h1 h2
  obj:=fun q b ho=>by
    obtain ⟨⟨h1,h2,h3,h4⟩,h5,h6,h7⟩:=I.obj q b ho
    have hne:q≠p:=by rintro rfl;exact hob b ho
    refine ⟨⟨hD _ _ ho h1,h2,h3,h4⟩,by show fetch h' env act.dx q=_;rw [hq q hne (.inr ⟨b,ho⟩)];exact h5,h6,fun n hn=> ?_⟩
    refine x23 (h7 n hn) ?_;intro k v e r f
    refine x11 (hC n k v (.inr ⟨b,hn ▸ ho⟩) e r) ?_;intro v' r'
    exact ⟨k,v',e,r',f⟩
  nofld:=I.nofld
  ownC:=I.ownC
theorem Spare.put {d:Addr} (S:Spare cx act env g s st d) (hnd:cx.places.Nodup) {i:Nat} {p:Loc} {v:Value} {sl:Slot} {c:Addr} {h':Heap} (t:Nat) (hp:cx.places[i]? =some p)
    (hs:Heap.SameBut c s.heap h') (hdc:d≠c) (hf:fetch h' env act.dx p=some v) (hq:∀ q,q≠p→(q∈cx.places∨∃ b,cx.obj=some (q,b))→fetch h' env act.dx q=fetch s.heap env act.dx q)
    (hown:∀ l,sl= .own l→v≠ .ref d):Spare cx act env g { s with heap:=h',toks:=t} (st.set i sl) d∧h'.get? d=s.heap.get? d:=by
  have e:=hs.2 d hdc
  refine x11 S.live ?_;intro o ho
  refine ⟨⟨⟨o,e.trans ho⟩,S.gh,fun h=> ?_,S.nL,S.nC,S.ab⟩,e⟩
  rcases h with h | ⟨j,q,l,hj,hl,hfe⟩
  · exact S.nt (.inl h)
  · have hfe:fetch h' env act.dx q=some (.ref d):=hfe
    rcases get_set hl with ⟨rfl,hl,_⟩ | ⟨hne,hl⟩
    · rw [hp] at hj;induction hj using someE
      rw [hf] at hfe;cases hfe
      exact hown l hl.symm rfl
    · rw [hq q (Ne.symm (places_ne hnd hp hj hne)) (.inl (List.mem_of_getElem? hj))] at hfe
      exact S.nt (.inr ⟨j,q,l,hj,hl,hfe⟩)
structure Stored (G:Top0) (cx:Cx) (act:Act) (env:Env) (g:Gh) (s:Shared) (st:St) (v:Value) (sl:Slot) (s':Shared) (st':St):Prop where
  inv:Inv G cx act env g s' st'
  keepL:∀ a vs n,s.heap.get? a=some (LstO vs n)→s'.heap.get? a=some (LstO vs n)
  sp:∀ d,Spare cx act env g s st d→(∀ l,sl= .own l→v≠ .ref d)→Spare cx act env g s' st' d∧s'.heap.get? d=s.heap.get? d
theorem fetch_sameL (I:Inv G cx act env g s st) {n:Str} {v:Value} {h':Heap} (hn:h'.Ns env.locals (fun y=>if y=n then some v else s.heap.nsMap env.locals y)) (hs:Heap.SameBut env.locals s.heap h'):
    fetch h' env act.dx (.loc n)=some v∧(∀ q,q≠Loc.loc n→(q∈cx.places∨∃ b,cx.obj=some (q,b))→fetch h' env act.dx q=fetch s.heap env act.dx q):=by
  have e:=(nsMap_of hn).2
  refine ⟨by show h'.nsMap env.locals n=some v;rw [e];exact if_pos rfl,fun q hq hm=> ?_⟩
  cases q with
  | loc m=>
    show h'.nsMap env.locals m=s.heap.nsMap env.locals m
    rw [e];exact if_neg fun h=>hq (by rw [h])
  | cell m=>
    show (match env.cells.lookup m with | some c=>cellVal h' c | none=>none)=(match env.cells.lookup m with | some c=>cellVal s.heap c | none=>none)
    cases e:env.cells.lookup m with
    | none=>rfl
    | some c=>
      refine x11 (I.cellsLt hm e) ?_;intro v' hc
      have:=hs.2 c (cell_ne_ns hc I.locN)
      show cellVal h' c=cellVal s.heap c
      unfold cellVal;rw [this]
  | fld m=>
    cases ho:cx.obj with
    | none=>
      rcases hm with hm | ⟨b,hm⟩
      · exact absurd hm (I.nofld ho m)
      · rw [ho] at hm;exact noneE hm
    | some pb=>
      obtain ⟨p,b⟩:=pb
      exact congrFun (nsMap_keep (I.obj p b ho).1.1.1 fun o e=>(hs.2 _ (I.obj p b ho).1.2.2.1).trans e).2 m
noncomputable def KeepL (h h':Heap):Prop:=∀ a vs n,h.get? a=some (LstO vs n)→h'.get? a=some (LstO vs n)
theorem Inv.storeLoc (I:Inv G cx act env g s st) (O:Ok N cx A env) {i:Nat} {n:Str} {v:Value} {sl:Slot} {Q:Unit→Shared→Prop} {E:Value→Shared→Prop} (hp:cx.places[i]? =some (.loc n)) (hk:cx.sc.names.lookup n=some .local)
    (hsl:∀ h',KeepL s.heap h'→SlotOk G act g h' (some v) sl) (hown:∀ l,sl= .own l→∀ (j:Nat) (q:Loc) (l':List V),j≠i→cx.places[j]? =some q→st[j]? =some (.own l')→fetch s.heap env act.dx q≠some v)
    (h:∀ s',Stored G cx act env g s st v sl s' (st.set i sl)→fetch s'.heap env act.dx (.loc n)=some v→Q () s'):wpAny (model G.prog G.w) A (storeName env n v) Q E s:=by
  refine wpAny_storeName_local (by unfold Env.kindOf;rw [O.sc];exact hk) (Heap.Ns.of_isNs I.locN) (fun h' hn hs=> ?_) (by rw [O.sc,O.kind];rfl)
  refine x02 (fetch_sameL I hn hs) ?_;intro f1 f2
  refine h _ ⟨?_,fun a vs n e=>(hs.2 a (ns_ne_lst I.locN e).symm).trans e,fun d S hown=>S.put O.nodup _ hp hs S.nL f1 f2 hown⟩ f1
  refine I.put O.nodup _ hp hs I.locG (.inl I.locL) (let ⟨o,_,_,e,_⟩:=hn;⟨o,e⟩) f1 f2 (nsMap_of hn).1 (fun m k v' hm e q=>⟨v',q.sameBut hs (cell_ne_ns q I.locN)⟩) (fun q b ho hd=>hd.keep fun o e=>(hs.2 _ (I.obj q b ho).1.2.2.1).trans e) (fun a vs n e=>(ns_ne_lst I.locN e).symm) (fun b ho=>O.objp _ b ho (List.mem_of_getElem? hp)) (hsl h' fun a vs n e=>(hs.2 a (ns_ne_lst I.locN e).symm).trans e) hown
theorem name_of {cs:List (Str×Addr)} (ap:cs.Pairwise fun x y=>x.2≠y.2) {n m:Str} {c:Addr} (h1:cs.lookup n=some c) (h2:cs.lookup m=some c):n=m:=name_of_addr ap (mem_of_lookup h1) (mem_of_lookup h2)
theorem Inv.storeCell (I:Inv G cx act env g s st) (O:Ok N cx A env) {i:Nat} {n:Str} {v:Value} {sl:Slot} {Q:Unit→Shared→Prop} {E:Value→Shared→Prop} (hp:cx.places[i]? =some (.cell n)) (hk:cx.sc.names.lookup n=some .cell)
    (hmine:cx.own=true)
    (hsl:∀ h',KeepL s.heap h'→SlotOk G act g h' (some v) sl) (hown:∀ l,sl= .own l→∀ (j:Nat) (q:Loc) (l':List V),j≠i→cx.places[j]? =some q→st[j]? =some (.own l')→fetch s.heap env act.dx q≠some v)
    (h:∀ s',Stored G cx act env g s st v sl s' (st.set i sl)→fetch s'.heap env act.dx (.cell n)=some v→Q () s'):wpAny (model G.prog G.w) A (storeName env n v) Q E s:=by
  have hm:=List.mem_of_getElem? hp
  refine x23 (I.cell n hm) ?_;intro c v0 e1 e2 e3
  refine wpAny_storeName_cell (by rw [O.sc];exact O.kind) (by unfold Env.kindOf;rw [O.sc];exact hk) e1 e2 fun h' hc hs=> ?_
  have hf:fetch h' env act.dx (.cell n)=some v:=by
    show (match env.cells.lookup n with | some c=>cellVal h' c | none=>none)=some v
    rw [e1];exact cellVal_of hc
  have hq:∀ q,q≠Loc.cell n→(q∈cx.places∨∃ b,cx.obj=some (q,b))→fetch h' env act.dx q=fetch s.heap env act.dx q:=by
    intro q hq hm'
    cases q with
    | loc m=>exact congrFun (nsMap_keep I.locN fun o e=>(hs.2 _ (Ne.symm (cell_ne_ns e2 I.locN))).trans e).2 m
    | cell m=>
      show (match env.cells.lookup m with | some c=>cellVal h' c | none=>none)=(match env.cells.lookup m with | some c=>cellVal s.heap c | none=>none)
      cases e:env.cells.lookup m with
      | none=>rfl
      | some k=>
        have hne:k≠c:=by rintro rfl;exact hq (by rw [name_of O.apartC e e1])
        show cellVal h' k=cellVal s.heap k
        unfold cellVal;rw [hs.2 k hne]
    | fld m=>
      cases ho:cx.obj with
      | none=>
        rcases hm' with hm' | ⟨b,hm'⟩
        · exact absurd hm' (I.nofld ho m)
        · rw [ho] at hm';exact noneE hm'
      | some pb=>
        obtain ⟨p,b⟩:=pb
        have hd:=(I.obj p b ho).1.1.1
        exact congrFun (nsMap_keep hd fun o e=>(hs.2 _ (Ne.symm (cell_ne_ns e2 hd))).trans e).2 m
  refine h _ ⟨?_,fun a vs n e=>(hs.2 a (cell_ne_lst e2 e).symm).trans e,fun d S hown=>S.put O.nodup _ hp hs (fun e=>S.nC n c (.inl hm) e1 e.symm) hf hq hown⟩ hf
  refine I.put (c:=c) O.nodup s.toks hp hs e3 (.inl (I.ownC hmine n c e1)) (let ⟨o,e,_⟩:=hc;⟨o,e⟩) hf hq (nsMap_keep I.locN fun o e=>(hs.2 _ (Ne.symm (cell_ne_ns e2 I.locN))).trans e).1 (fun m k v' hm' e q=> ?_) (fun q b ho hd=>hd.keep fun o e=>(hs.2 _ (Ne.symm (cell_ne_ns e2 hd.1))).trans e)
    (fun a vs n e=>(cell_ne_lst e2 e).symm) (fun b ho=>O.objp _ b ho hm) (hsl h' fun a vs n e=>(hs.2 a (cell_ne_lst e2 e).symm).trans e) hown
  by_cases hkc:k=c
  · subst hkc;exact ⟨_,hc⟩
  · exact ⟨v',q.sameBut hs hkc⟩
end
end Mine
end
section
open PySem PySem.Calls PyProof.Rows PySem.W
set_option maxRecDepth 10000
namespace Mine
section
variable {G:Top0} {N:Nat} {cx:Cx}
theorem SemS.ret {e:Expr} {pos:Pos} {a:EF} (ha:SemE G N cx e a):SemS G N cx (.Return (some e) pos) (sRet a):=by
  intro A env act g s st b st' Q E O I hf h
  refine bind2 hf ?_;clear hf;intro x st1 e1 hf
  cases hf using pairE
  exact wpAny_Return_some (ha O I e1 fun v g1 s1 T1 r1=>h _ g1 s1 T1.ss r1)
theorem SemB.nil:SemB G N cx [] bNil:=by
  intro A env act g s st b st' Q E O I hf h
  cases hf using pairE
  exact wpAny_execs_nil (h _ g s (.refl I) trivial)
theorem SemB.cons {c:Stmt} {r:List Stmt} {f fr:SF} (ha:SemS G N cx c f) (hb:SemB G N cx r fr):SemB G N cx (c::r) (bCons f fr):=by
  intro A env act g s st b st' Q E O I hf h
  refine bind2 hf ?_;clear hf;intro x st1 e1 hf
  refine wpAny_execs_cons (ha O I e1 fun fl g1 s1 S1 r1=> ?_)
  induction x using Fl.casesOn with
  | next=>
    cases fl <;> try (exact r1.elim)
    exact hb O S1.inv hf fun fl g2 s2 S2 r2=>h fl g2 s2 (S1.trans S2) r2
  | ret d=>
    cases fl <;> try (exact r1.elim)
    cases hf using pairE
    exact h _ g1 s1 S1 r1
theorem SemS.ite {t:Expr} {x y:List Stmt} {pos:Pos} {c:TF} {a b:SF} (hc:SemT G N cx t c) (ha:SemB G N cx x a) (hb:SemB G N cx y b):SemS G N cx (.If t x y pos) (sIf c a b):=by
  intro A env act g s st b st' Q E O I hf h
  refine bind2 hf ?_;clear hf;intro v st1 e1 hf
  refine wpAny_If (hc O I e1 fun g1 s1 T1=> ?_)
  induction v using Bool.casesOn with
  | true=>exact ha O T1.inv hf fun fl g2 s2 S2 r2=>h fl g2 s2 (T1.ss.trans S2) r2
  | false=>exact hb O T1.inv hf fun fl g2 s2 S2 r2=>h fl g2 s2 (T1.ss.trans S2) r2
theorem SemS.expr {e:Expr} {pos:Pos} {a:EF} (ha:SemE G N cx e a) (hs:∀ env,swapsWith e none pos.line env=pure false):SemS G N cx (.Expr e pos) (sExpr a):=by
  intro A env act g s st b st' Q E O I hf h
  refine bind2 hf ?_;clear hf;intro x st1 e1 hf
  dsimp only at hf
  split at hf
  · induction hf using pairE
    exact wpAny_Expr_any (ha O I e1 fun v g1 s1 T1 r1=>h _ g1 s1 T1.ss trivial) (by unfold interactive;rw [O.sc,O.kind];rfl) (hs env)
  · exact noneE hf
noncomputable def Stores (G:Top0) (N:Nat) (cx:Cx) (i:Nat) (n:Str):Prop:=∀ {A env act g s st v sl} {Q:Unit→Shared→Prop} {E:Value→Shared→Prop},Ok N cx A env→Inv G cx act env g s st→
  (∀ h',KeepL s.heap h'→SlotOk G act g h' (some v) sl)→(∀ l,sl= .own l→∀ (j:Nat) (q:Loc) (l':List V),j≠i→cx.places[j]? =some q→st[j]? =some (.own l')→fetch s.heap env act.dx q≠some v)→
  (∀ s',Stored G cx act env g s st v sl s' (st.set i sl)→Q () s')→wpAny (model G.prog G.w) A (storeName env n v) Q E s
theorem Stores.loc {i:Nat} {n:Str} (hp:cx.places[i]? =some (.loc n)) (hk:cx.sc.names.lookup n=some .local):Stores G N cx i n:=by
  intro A env act g s st v sl Q E O I hsl hown h
  exact I.storeLoc O hp hk hsl hown fun s' x _=>h s' x
theorem Stores.cell {i:Nat} {n:Str} (hp:cx.places[i]? =some (.cell n)) (hk:cx.sc.names.lookup n=some .cell) (ho:cx.own=true):Stores G N cx i n:=by
  intro A env act g s st v sl Q E O I hsl hown h
  exact I.storeCell O hp hk ho hsl hown fun s' x _=>h s' x
section
variable {act:Act} {env:Env} {g g' g'':Gh} {s s' s'':Shared} {st st' st'':St} {A:Around} {v:Value} {d:V} {a:Addr} {l:List V}
theorem Stored.ssV (x:Stored G cx act env g s st v (.val d) s' st'):SStep G cx act env g s st g s' st':=⟨.refl g,x.inv,fun _ S=>x.sp _ S fun _ e=>by cases e⟩
theorem Stores.val {i:Nat} {n:Str} {Q:Unit→Shared→Prop} {E:Value→Shared→Prop} (hS:Stores G N cx i n) (O:Ok N cx A env) (I:Inv G cx act env g s st) (r:Rel G.prog G.w g v d)
    (h:∀ s',SStep G cx act env g s st g s' (st.set i (.val d))→Q () s'):wpAny (model G.prog G.w) A (storeName env n v) Q E s:=
  hS (sl:= .val d) O I (fun _ _=>⟨v,rfl,r⟩) (fun l e=>by cases e) fun s' x=>h s' x.ssV
structure Pend (G:Top0) (cx:Cx) (act:Act) (env:Env) (g:Gh) (s:Shared) (st:St) (a:Addr) (l:List V):Prop where
  at_:∃ vs n,s.heap.get? a=some (LstO vs n)∧Rels G.prog G.w g vs l
  sp:Spare cx act env g s st a
theorem NewL.spare (x:NewL G cx act env g s st a l g' s' st'):Spare cx act env g' s' st' a:=by
  refine x22 x.at_ ?_;intro vs n e _
  exact ⟨⟨_,e⟩,x.priv,x.mine,x.notL,fun m c h q=>by
    refine x11 (x.step.inv.cellsLt h q) ?_;intro v hc
    exact cell_ne_lst hc e,x.above⟩
theorem NewL.pend (x:NewL G cx act env g s st a l g' s' st'):Pend G cx act env g' s' st' a l:=⟨x.at_,x.spare⟩
theorem Stores.own {i:Nat} {n:Str} {Q:Unit→Shared→Prop} {E:Value→Shared→Prop} (hS:Stores G N cx i n) (O:Ok N cx A env) (I:Inv G cx act env g s st) (r:Pend G cx act env g s st a l)
    (h:∀ s',Stored G cx act env g s st (.ref a) (.own l) s' (st.set i (.own l))→Q () s'):wpAny (model G.prog G.w) A (storeName env n (.ref a)) Q E s:=by
  refine x22 r.at_ ?_;intro vs k e hr
  exact hS (sl:= .own l) O I (fun h' hk=>⟨a,vs,k,rfl,hk _ _ _ e,r.sp.gh,.inl r.sp.ab,hr⟩) (fun _ _ j q l' _ hq hl hf=>r.sp.nt (.inr ⟨j,q,l',hq,hl,hf⟩)) h
theorem Stored.ssO (x:Stored G cx act env g' s' st' (.ref a) (.own l) s'' st'') (T:SStep G cx act env g s st g' s' st') (hf:s.heap.get? a=none):SStep G cx act env g s st g' s'' st'':=
  ⟨T.le,x.inv,fun d S=>by
    refine x02 (T.sp d S) ?_;intro S1 e1
    refine x11 S.live ?_;intro o ho
    obtain ⟨S2,e2⟩:=x.sp d S1 fun _ _ q=>by cases q;rw [hf] at ho;cases ho
    exact ⟨S2,e2.trans e1⟩⟩
end
theorem SemS.asg {n:Str} {p pos:Pos} {i:Nat} {e:Expr} {a:EF} (hS:Stores G N cx i n) (ha:SemE G N cx e a) (hs:∀ env,swapsWith e (some (.Name n p)) pos.line env=pure false):SemS G N cx (.Assign [.Name n p] e pos) (sAsg i a):=by
  intro A env act g s st b st' Q E O I hf h
  refine bind2 hf ?_;clear hf;intro x st1 e1 hf
  cases hf using pairE
  exact wpAny_Assign_Name (ha O I e1 fun v g1 s1 T1 r1=>hS.val O T1.inv r1 fun s2 S2=>h _ g1 s2 (T1.ss.trans S2) trivial) (hs env)
theorem SemS.asgL {n:Str} {p pos:Pos} {i:Nat} {e:Expr} {a:LF} (hS:Stores G N cx i n) (ha:SemL G N cx e a) (hs:∀ env,swapsWith e (some (.Name n p)) pos.line env=pure false):SemS G N cx (.Assign [.Name n p] e pos) (sAsgL i a):=by
  intro A env act g s st b st' Q E O I hf h
  refine bind2 hf ?_;clear hf;intro x st1 e1 hf
  cases hf using pairE
  exact wpAny_Assign_Name (ha O I e1 fun d g1 s1 X=>hS.own O X.step.inv X.pend fun s2 Y=>h _ g1 s2 (Y.ssO X.step.ss X.fresh) trivial) (hs env)
theorem SemS.whl {t:Expr} {body:List Stmt} {pos:Pos} {c:TF} {f:SF} {n:Nat} (hc:SemT G N cx t c) (hb:SemB G N cx body f):SemS G N cx (.While t body [] pos) (sWhile n c f):=by
  intro A env act g s st b st' Q E O I hf h
  refine wpAny_While (codeAny_whileLoop (fun k s'=>∃ g' st1,SStep G cx act env g s st g' s' st1∧whileLoop c f k st1=some (b,st')) ?_ n ⟨g,st,.refl I,hf⟩)
  rintro k s1 ⟨g1,st1,S1,e1⟩
  induction k using Nat.casesAuxOn with
  | zero=>exact noneE e1
  | succ k=>
    refine bind2 e1 ?_;clear e1;intro v st2 e2 e1
    refine hc O S1.inv e2 fun g2 s2 T2=> ?_
    induction v using Bool.casesOn with
    | false=>
      induction e1 using pairE
      exact wpAny_execs_nil (h _ g2 s2 (S1.trans T2.ss) trivial)
    | true=>
      refine bind2 e1 ?_;clear e1;intro x st3 e3 e1
      refine hb O T2.inv e3 fun fl g3 s3 S3 r3=> ?_
      induction x using Fl.casesOn with
      | next=>
        cases fl <;> try (exact r3.elim)
        exact ⟨k,Nat.lt_succ_self k,g3,st3,(S1.trans T2.ss).trans S3,e1⟩
      | ret d=>
        cases fl <;> try (exact r3.elim)
        induction e1 using pairE
        exact h _ g3 s3 ((S1.trans T2.ss).trans S3) r3
end
end Mine
end
section
open PySem PySem.Calls PyProof.Rows PySem.W
set_option maxRecDepth 10000
namespace Mine
structure Iter (G:Top0) (I:Addr) (ds:List V) (g:Gh) (St:Nat→Heap→Prop):Prop where
  item:∀ {A:Around} {i:Nat} {s:Shared} {g':Gh} {d:V} {Q:Option Value→Shared→Prop} {E:Value→Shared→Prop},A.handled=none→g.le g'→ds[i]? =some d→St i s.heap→
    (∀ v h' tk,Rel G.prog G.w g' v d→St (i+1) h'→Heap.ExtBut I s.heap h'→Q (some v) { s with heap:=h',toks:=tk})→wpAny (model G.prog G.w) A (pyNext (.ref I)) Q E s
  done:∀ {A:Around} {s:Shared} {Q:Option Value→Shared→Prop} {E:Value→Shared→Prop},A.handled=none→St ds.length s.heap→
    (∀ h' tk,Heap.ExtBut I s.heap h'→Q none { s with heap:=h',toks:=tk})→wpAny (model G.prog G.w) A (pyNext (.ref I)) Q E s
  go:∀ {A:Around} {i:Nat} {s:Shared} {target:Expr} {v:Value} {Q:Unit→Shared→Prop} {E:Value→Shared→Prop},St i s.heap→Q () s→wpAny (model G.prog G.w) A (letOwnedTupleGo target (.ref I) v) Q E s
  self:∀ {A:Around} {i:Nat} {s:Shared} {Q:Value→Shared→Prop} {E:Value→Shared→Prop},St i s.heap→Q (.ref I) s→wpAny (model G.prog G.w) A (pyIter (.ref I)) Q E s
  live:∀ {i h},St i h→∃ o,h.get? I=some o
  frame:∀ {i h h' g'},St i h→g.le g'→g'.inH h'→h'.get? I=h.get? I→St i h'
theorem letGo_plain {prog:Program} {w:World} {A:Around} {E:Value→Shared→Prop} {target:Expr} {I:Addr} {o:Obj} {T:String} {v:Value} {Q:Unit→Shared→Prop} {s:Shared} (ho:s.heap.get? I=some o) (hc:o.cls= .type T)
    (ht:["enumerate","zip","dict_itemiterator","dict_reverseitemiterator","odict_iterator","itertools.zip_longest","itertools.pairwise"].contains T=false) (h:Q () s):
    wpAny (model prog w) A (letOwnedTupleGo target (.ref I) v) Q E s:=by
  unfold letOwnedTupleGo
  cases target <;> first
    | exact wpAny_pure h
    | (cases v <;> first
        | exact wpAny_pure h
        | (refine wpAny_bind (wpAny_load ho ?_)
           rw [hc]
           cases hd:o.data <;> first
             | exact wpAny_pure h
             | (dsimp only
                rw [ht]
                exact wpAny_pure h)))
section
variable {G:Top0} {N:Nat} {cx:Cx}
theorem Iter.list {I a:Addr} {n:Nat} {g:Gh} {vs:List Value} {ds:List V} (hg:g a=some (LstO vs n)) (r:Rels G.prog G.w g vs ds) (hne:a≠I):
    Iter G I ds g (fun i h=>h.IsListIter I a i∧h.IsList a vs.toArray) where
  item:=fun {A i s g' d Q E} hh le e st h=>by
    refine x12 (r.get i e) ?_;intro v hv hr
    have hi:i<vs.length:=(List.getElem?_eq_some_iff.mp hv).1
    refine (Walks.list (prog:=G.prog) (w:=G.w) hh I a hne vs.toArray).item i s Q E (by simpa using hi) st fun u h' tk hu st' hk=> ?_
    have:u=v:=by
      have hu:vs[i]? =some u:=by simpa using hu
      rw [hv] at hu;exact (Option.some.inj hu).symm
    subst this
    exact h u h' tk (hr.le le) st' fun b o hb x=>hk b o (by simpa using hb) x
  done:=fun {A s Q E} hh st h=>by
    refine (Walks.list (prog:=G.prog) (w:=G.w) hh I a hne vs.toArray).done s Q E (by rw [List.size_toArray,r.length];exact st) fun h' tk hk=>h h' tk fun b o hb x=>hk b o (by simpa using hb) x
  go:=fun st h=>letGo_listiter st.1 h
  self:=fun st h=>wpAny_pyIter_listiter st.1 h
  live:=fun st=>let ⟨o,e,_⟩:=st.1;⟨o,e⟩
  frame:=fun st le i e=>⟨st.1.at fun o x=>e.trans x,⟨LstO vs n,i _ _ (le _ _ hg),rfl,n,rfl⟩⟩
theorem Iter.tuple {I a:Addr} {n:Nat} {g:Gh} {vs:List Value} {ds:List V} (hg:g a=some (TupO vs n)) (r:Rels G.prog G.w g vs ds) (hne:a≠I):
    Iter G I ds g (fun i h=>h.IsTupleIter I a i∧h.IsTuple a vs.toArray) where
  item:=fun {A i s g' d Q E} hh le e st h=>by
    refine x12 (r.get i e) ?_;intro v hv hr
    have hi:i<vs.length:=(List.getElem?_eq_some_iff.mp hv).1
    refine (Walks.tuple (prog:=G.prog) (w:=G.w) hh I a hne vs.toArray).item i s Q E (by simpa using hi) st fun u h' tk hu st' hk=> ?_
    have:u=v:=by
      have hu:vs[i]? =some u:=by simpa using hu
      rw [hv] at hu;exact (Option.some.inj hu).symm
    subst this
    exact h u h' tk (hr.le le) st' fun b o hb x=>hk b o (by simpa using hb) x
  done:=fun {A s Q E} hh st h=>by
    refine (Walks.tuple (prog:=G.prog) (w:=G.w) hh I a hne vs.toArray).done s Q E (by rw [List.size_toArray,r.length];exact st) fun h' tk hk=>h h' tk fun b o hb x=>hk b o (by simpa using hb) x
  go:=fun st h=>letGo_tupleiter st.1 h
  self:=fun st h=>wpAny_pyIter_tupleiter st.1 h
  live:=fun st=>let ⟨o,e,_⟩:=st.1;⟨o,e⟩
  frame:=fun st le i e=>⟨st.1.at fun o x=>e.trans x,⟨TupO vs n,i _ _ (le _ _ hg),rfl,n,rfl⟩⟩
theorem Iter.bytes {I:Addr} {g:Gh} (b:Array UInt8) (t:Tok):Iter G I (b.toList.map fun c=>V.int c.toNat) g (fun i h=>KBw.IsBytesIter h I b t i) where
  item:=fun {A i s g' d Q E} hh le e st h=>by
    rw [List.getElem?_map] at e
    refine x12 (Option.map_eq_some_iff.mp e) ?_;intro c hc hq2;subst hq2
    have hc':b[i]? =some c:=by simpa using hc
    have hi:i<b.size:=(Array.getElem?_eq_some_iff.mp hc').1
    refine (KBw.walks (prog:=G.prog) (w:=G.w) hh I b t).item i s Q E hi st fun u h' tk hu st' hk=> ?_
    refine x22 hu ?_;(try clear hu);intro c' u' hu hq3;subst hq3
    have:c'=c:=by rw [hc'] at hu;exact (Option.some.inj hu).symm
    subst this
    exact h _ h' tk (.int _ _) st' fun b o hb x=>hk b o (by simpa using hb) x
  done:=fun {A s Q E} hh st h=>by
    refine (KBw.walks (prog:=G.prog) (w:=G.w) hh I b t).done s Q E (by simpa using st) fun h' tk hk=>h h' tk fun b o hb x=>hk b o (by simpa using hb) x
  go:=fun st h=>let ⟨_,e,c,_⟩:=st;letGo_plain e c (by decide) h
  self:=fun st h=>KBw.pyIter_self st h
  live:=fun st=>let ⟨o,e,_⟩:=st;⟨o,e⟩
  frame:=fun st _ _ e=>let ⟨o,x,r⟩:=st;⟨o,e.trans x,r⟩
theorem Iter.range {I:Addr} {g:Gh} (n:Nat):Iter G I ((List.range n).map fun (k:Nat)=>V.int k) g (fun i h=>IsRangeIter h I (0+(i:Nat)*1) ((n:Int) - (i:Nat)) 1) where
  item:=fun {A i s g' d Q E} hh le e st h=>by
    rw [List.getElem?_map] at e
    refine x12 (Option.map_eq_some_iff.mp e) ?_;intro c hc hq2;subst hq2
    refine x11 (List.getElem?_eq_some_iff.mp hc) ?_;intro hi hc
    rw [List.getElem_range] at hc
    subst hc
    rw [List.length_range] at hi
    refine (Walks.range (prog:=G.prog) (w:=G.w) hh I 0 1 n).item i s Q E hi st fun u h' tk hu st' hk=> ?_
    refine x11 hu ?_;(try clear hu);intro t hq1;subst hq1
    have:(0+(i:Int)*1)=(i:Int):=by lia
    rw [this]
    exact h _ h' tk (.int _ _) st' fun b o hb x=>hk b o (by simpa using hb) x
  done:=fun {A s Q E} hh st h=>by
    refine (Walks.range (prog:=G.prog) (w:=G.w) hh I 0 1 n).done s Q E (by simpa using st) fun h' tk hk=>h h' tk fun b o hb x=>hk b o (by simpa using hb) x
  go:=fun st h=>letGo_plain st rfl (by decide) h
  self:=fun st h=>wpAny_pyIter_rangeiter st h
  live:=fun st=>⟨_,st⟩
  frame:=fun st _ _ e=>e.trans st
noncomputable def Itb (G:Top0) (g:Gh) (x:Value) (ds:List V):Prop:=∀ {A:Around} {s:Shared} {Q:Value→Shared→Prop} {E:Value→Shared→Prop},g.inH s.heap→
  (∀ o St,o.isFreed=false→Iter G s.heap.objs.size ds g St→St 0 (s.heap.push o)→Q (.ref s.heap.objs.size) { s with heap:=s.heap.push o})→wpAny (model G.prog G.w) A (pyIter x) Q E s
theorem Itb.of {g:Gh} {v:Value} {d:V} {ds:List V} (r:Rel G.prog G.w g v d) (e:itemsV d=some ds):Itb G g v ds∧ds.length≤lim:=by
  induction r using Rel.cs with
  | tup e1 r=>
    rename_i a n vs ds'
    simp only [itemsV] at e
    split at e <;> (first | exact noneE e | induction e using someE)
    refine ⟨?_,by assumption⟩
    intro A s Q E i h
    have e2:=i _ _ e1
    refine wpAny_pyIter_tuple (items:=vs.toArray) ⟨_,e2,rfl,n,rfl⟩ (h _ _ rfl (Iter.tuple e1 r (live_ne e2 (dead_end _ (Nat.le_refl _)))) ⟨⟨_,Heap.get?_push_size _ rfl,rfl,rfl⟩,⟨_,Heap.get?_push_of_some _ e2,rfl,n,rfl⟩⟩)
  | lst e1 r=>
    rename_i a n vs ds'
    simp only [itemsV] at e
    split at e <;> (first | exact noneE e | induction e using someE)
    refine ⟨?_,by assumption⟩
    intro A s Q E i h
    have e2:=i _ _ e1
    refine wpAny_pyIter_list (items:=vs.toArray) ⟨_,e2,rfl,n,rfl⟩ (h _ _ rfl (Iter.list e1 r (live_ne e2 (dead_end _ (Nat.le_refl _)))) ⟨⟨_,Heap.get?_push_size _ rfl,rfl,rfl⟩,⟨_,Heap.get?_push_of_some _ e2,rfl,n,rfl⟩⟩)
  | bytes hb=>
    rename_i b t l
    subst hb
    simp only [itemsV] at e
    split at e <;> (first | exact noneE e | induction e using someE)
    refine ⟨?_,by simpa using ‹_≤lim›⟩
    intro A s Q E i h
    exact KBw.pyIter_bytes (h _ _ rfl (Iter.bytes b t) ⟨_,Heap.get?_push_size _ rfl,rfl,rfl⟩)
  | _=>exact noneE e
noncomputable def SemI (G:Top0) (N:Nat) (cx:Cx) (e:Expr) (f:LF):Prop:=∀ ⦃A env act g s st l st'⦄ ⦃Q E:Value→Shared→Prop⦄,Ok N cx A env→Inv G cx act env g s st→f st=some (l,st')→
  (∀ v g' s',Step G cx act env g s st g' s' st'→Itb G g' v l→l.length≤lim→Q v s')→wpAny (model G.prog G.w) A (eval e env) Q E s
theorem SemI.seq {e:Expr} {f:EF} (ha:SemE G N cx e f):SemI G N cx e (iSeq f):=by
  intro A env act g s st l st' Q E O I hf h
  refine bind2 hf ?_;clear hf;intro x st1 e1 hf
  refine bind1 hf ?_;clear hf;intro y e2 hf
  cases hf using pairE
  exact ha O I e1 fun v g1 s1 T r=>let ⟨a,b⟩:=Itb.of r e2;h v g1 s1 T a b
structure Bi (G:Top0) (cx:Cx) (n:Str) (v:Value):Prop where
  mg:G.mg n=none
  mb:G.mb n=some v
  hk:cx.sc.names.lookup n=some .globalImplicit
  hdb:(n==("__debug__":Str))=false
theorem Bi.load {A:Around} {env:Env} {act:Act} {g:Gh} {s:Shared} {st:St} {n:Str} {p:Pos} {v:Value} {Q E:Value→Shared→Prop} (B:Bi G cx n v) (O:Ok N cx A env) (I:Inv G cx act env g s st) (h:Q v s):
    wpAny (model G.prog G.w) A (eval (.Name n p) env) Q E s:=
  Name_function_global (by rw [O.sc];exact O.kind) (by unfold Env.kindOf;rw [O.sc];exact B.hk) (loadGlobal_builtin (O.glob ▸ G.g _ I.gBh) B.mg (O.bi ▸ G.b _ I.gBh) B.mb h) B.hdb
theorem Bi.call1 {A:Around} {env:Env} {act:Act} {g:Gh} {s:Shared} {st st':St} {n:Str} {p pos:Pos} {id:String} {x:Expr} {d:V} {f:EF} {Q E:Value→Shared→Prop} (B:Bi G cx n (.builtin id)) (O:Ok N cx A env) (I:Inv G cx act env g s st)
    (hx:SemE G N cx x f) (he:isStarred x=false) (hf:f st=some (d,st')) (h:∀ v g' s',Step G cx act env g s st g' s' st'→Rel G.prog G.w g' v d→wpAny (model G.prog G.w) A (call (.builtin id) [v]) Q E s'):
    wpAny (model G.prog G.w) A (eval (.Call (.Name n p) [x] [] pos) env) Q E s:=by
  refine wpAny_Call_NameR (B.load O I ?_)
  refine PyProof.Rows.callWith_builtin1 ?_ (starEach_plain he env) rfl
  refine wpAny_items_cons (hx O I hf fun v g1 s1 T r=>wpAny_items_nil (h v g1 s1 T r)) (starEach_plain he env)
theorem Bi.call1T {A:Around} {env:Env} {act:Act} {g:Gh} {s:Shared} {st st':St} {n:Str} {p pos:Pos} {id:String} {x:Expr} {d:V} {f:EF} {Q E:Value→Shared→Prop} (B:Bi G cx n (.type id)) (O:Ok N cx A env) (I:Inv G cx act env g s st)
    (hx:SemE G N cx x f) (he:isStarred x=false) (hf:f st=some (d,st')) (h:∀ v g' s',Step G cx act env g s st g' s' st'→Rel G.prog G.w g' v d→wpAny (model G.prog G.w) A (call (.type id) [v]) Q E s'):
    wpAny (model G.prog G.w) A (eval (.Call (.Name n p) [x] [] pos) env) Q E s:=by
  refine wpAny_Call_NameR (B.load O I ?_)
  refine PySem.Pv.callWith_type1 ?_ (starEach_plain he env) rfl
  refine wpAny_items_cons (hx O I hf fun v g1 s1 T r=>wpAny_items_nil (h v g1 s1 T r)) (starEach_plain he env)
theorem Bi.call2 {A:Around} {env:Env} {act:Act} {g:Gh} {s:Shared} {st st1 st':St} {n:Str} {p pos:Pos} {id:String} {x y:Expr} {d d':V} {f f':EF} {Q E:Value→Shared→Prop} (B:Bi G cx n (.builtin id)) (O:Ok N cx A env) (I:Inv G cx act env g s st)
    (hx:SemE G N cx x f) (hy:SemE G N cx y f') (he:isStarred x=false) (he':isStarred y=false) (hf:f st=some (d,st1)) (hf':f' st1=some (d',st'))
    (h:∀ v u g' s',Step G cx act env g s st g' s' st'→Rel G.prog G.w g' v d→Rel G.prog G.w g' u d'→wpAny (model G.prog G.w) A (call (.builtin id) [v,u]) Q E s'):
    wpAny (model G.prog G.w) A (eval (.Call (.Name n p) [x,y] [] pos) env) Q E s:=by
  refine wpAny_Call_NameR (B.load O I ?_)
  refine PyProof.Rows.callWith_builtin1 ?_ (starEach_plain he env) (by rw [starEach_plain he' env];rfl)
  refine wpAny_items_cons (hx O I hf fun v g1 s1 T r=> ?_) (starEach_plain he env)
  exact wpAny_items_cons (hy O T.inv hf' fun u g2 s2 T2 r2=>wpAny_items_nil (h v u g2 s2 (T.trans T2) (r.le T2.gg) r2)) (starEach_plain he' env)
theorem SemI.range {x:Expr} {p pos:Pos} {f:EF} (B:Bi G cx "range" (.type "range")) (hx:SemE G N cx x f) (he:isStarred x=false):SemI G N cx (.Call (.Name "range" p) [x] [] pos) (iRange f):=by
  intro A env act g s st l st' Q E O I hf h
  refine bind2 hf ?_;clear hf;intro y st1 e1 hf
  induction y using V.cs with
  | int n=>
    dsimp only at hf
    split at hf
    · rename_i hn
      cases hf using pairE
      refine B.call1T O I hx he e1 fun v g1 s1 T r=> ?_
      cases r
      rename_i t
      refine call_range_1 ?_
      let o:Obj:={ cls:= .type "range",data:= .fields #[.int 0 s1.toks,.int n t,.int 1 (s1.toks+1)]}
      have M:=T.inv.made (o:=o) rfl
      have M2:=M.inv.stepT (s1.toks+1+1)
      have X:=(T.trans M).trans M2
      have hl:lim=1000000:=rfl
      refine h _ _ _ X ?_ (by simp only [List.length_map,List.length_range];lia)
      intro A' s' Q' E' i' h'
      have e:=i' s1.heap.objs.size o (Gh.put_self ..)
      have hs:Builtin.Range.rangeSize 0 n 1=(n.toNat:Int):=by rw [rangeSize_one];split <;> lia
      refine wpAny_pyIter_range (t:=s1.toks) (u:=t) (v:=s1.toks+1) e (small_one (by decide) (by decide) (by lia) (by lia)) ?_
      rw [hs]
      refine h' _ _ rfl (Iter.range n.toNat) ?_
      simpa using Heap.get?_push_size _ rfl
    · exact noneE hf
  | _=>exact noneE hf
end
end Mine
end
section
open PySem PySem.Calls PyProof.Rows PySem.W
set_option maxRecDepth 10000
namespace Mine
section
variable {G:Top0} {N:Nat} {cx:Cx}
theorem Ext.keep {g:Gh} {h h':Heap} (x:g.inH h) (k:∀ a o,h.get? a=some o→h'.get? a=some o):Ext g h g h':=
  ⟨.refl _,fun a o e=>k a o (x a o e),fun a o e _=>k a o e,fun _ _ _ e _=>e,dead_of_keep k⟩
theorem keep_of_extBut {h h':Heap} (x:Heap.ExtBut h.objs.size h h'):∀ a o,h.get? a=some o→h'.get? a=some o:=fun a o e=>x a o (live_ne e (dead_end _ (Nat.le_refl _))) e
section
variable {act:Act} {env:Env} {g g' g'':Gh} {s s' s'':Shared} {st st' st'':St} {d:Addr}
theorem Spare.poke (I:Inv G cx act env g s st) (S:Spare cx act env g s st d) {h':Heap} (hs:Heap.ExtBut d s.heap h') (t:Nat) {d':Addr} (x:Spare cx act env g s st d') (hl:∃ o,h'.get? d'=some o):
    Spare cx act env g { s with heap:=h',toks:=t} st d':=
  ⟨hl,x.gh,fun h=>x.nt (h.imp id fun ⟨i,p,l,hp,hl,e⟩=>⟨i,p,l,hp,hl,by rw [← e];exact (I.fetch_poke S hs (.inl (List.mem_of_getElem? hp))).symm⟩),x.nL,x.nC,x.ab⟩
theorem SStep.poke (T:SStep G cx act env g s st g' s' st') (S:Spare cx act env g' s' st' d) (hf:s.heap.get? d=none) {h':Heap} (hs:Heap.ExtBut d s'.heap h') (t:Nat):
    SStep G cx act env g s st g' { s' with heap:=h',toks:=t} st':=by
  refine ⟨T.le,T.inv.poke S hs t,fun d' S'=> ?_⟩
  refine x02 (T.sp d' S') ?_;intro S1 e1
  refine x11 S'.live ?_;intro o ho
  have e2:h'.get? d'=some o:=hs _ _ (live_ne ho hf) (e1.trans ho)
  exact ⟨Spare.poke T.inv S hs t S1 ⟨_,e2⟩,e2.trans ho.symm⟩
end
noncomputable def POk (G:Top0) (cx:Cx) (act:Act) (env:Env) (h0:Heap) (g:Gh) (s:Shared) (st:St):Value→Slot→Prop
  | v,.val d=>Rel G.prog G.w g v d
  | v,.own l=>∃ a,v= .ref a∧Pend G cx act env g s st a l∧h0.get? a=none
  | _,.unset=>False
inductive Sets (G:Top0) (N:Nat) (cx:Cx) (env:Env):List (Value→Sem Unit)→List Nat→Prop
  | nil:Sets G N cx env [] []
  | cons {f fs n i is}:Stores G N cx i n→(∀ {A s v} {Q:Unit→Shared→Prop} {E:Value→Shared→Prop},wpAny (model G.prog G.w) A (storeName env n v) Q E s→wpAny (model G.prog G.w) A (f v) Q E s)→
      Sets G N cx env fs is→Sets G N cx env (f::fs) (i::is)
theorem Sets.app {env:Env} {fs fs' is is'} (x:Sets G N cx env fs is) (y:Sets G N cx env fs' is'):Sets G N cx env (fs++fs') (is++is'):=by
  induction x with
  | nil=>exact y
  | cons a b _ ih=>exact .cons a b ih
theorem Sets.rev {env:Env} {fs is} (x:Sets G N cx env fs is):Sets G N cx env fs.reverse is.reverse:=by
  induction x with
  | nil=>exact .nil
  | cons a b _ ih=>rw [List.reverse_cons,List.reverse_cons];exact ih.app (.cons a b .nil)
noncomputable def Apart (xs:List (Value×Slot)):Prop:=xs.Pairwise fun x y=>∀ l l',x.2= .own l→y.2= .own l'→x.1≠y.1
theorem Apart.rev {xs:List (Value×Slot)} (h:Apart xs):Apart xs.reverse:=List.pairwise_reverse.mpr (h.imp fun h l l' a b e=>h l' l b a e.symm)
theorem storeAll {A:Around} {env:Env} {act:Act} {g0 g:Gh} {s0:Shared} {st0:St} {Q:Unit→Shared→Prop} {E:Value→Shared→Prop} (O:Ok N cx A env)
    {fs:List (Value→Sem Unit)} {is:List Nat} {xs:List (Value×Slot)} {s:Shared} {st:St} (hs:Sets G N cx env fs is) (hl:is.length=xs.length) (T:SStep G cx act env g0 s0 st0 g s st)
    (hp:∀ x∈xs,POk G cx act env s0.heap g s st x.1 x.2) (hap:Apart xs)
    (h:∀ s',SStep G cx act env g0 s0 st0 g s' ((is.zip (xs.map (·.2))).foldl (fun st p=>st.set p.1 p.2) st)→Q () s'):
    wpAny (model G.prog G.w) A (assignInOrder fs (xs.map (·.1))) Q E s:=by
  induction hs generalizing xs s st with
  | nil=>
    rw [List.length_eq_zero_iff.mp hl.symm] at h ⊢
    exact wpAny_assignInOrder_none (h _ T)
  | @cons f fs n i is hS hf hr ih=>
    rcases xs with _ | ⟨⟨v,sl⟩,xs⟩
    · exact absurd hl (Nat.succ_ne_zero _)
    have hl':=Nat.succ.inj hl
    clear hl
    refine wpAny_assignInOrder_more (hf ?_)
    have hp0:=hp (v,sl) (List.mem_cons_self ..)
    refine x02 (List.pairwise_cons.mp hap) ?_;intro hap0 hap1
    have hrest:∀ s',Stored G cx act env g s st v sl s' (st.set i sl)→∀ x∈xs,POk G cx act env s0.heap g s' (st.set i sl) x.1 x.2:=by
      rintro s' Y ⟨v',sl'⟩ hx
      have q:=hp (v',sl') (List.mem_cons_of_mem _ hx)
      induction sl' using Slot.casesOn with
      | unset=>exact q
      | val d=>exact q
      | own l'=>
        obtain ⟨a,rfl,⟨⟨vs,n,e,r⟩,S⟩,hd⟩:=q
        refine x02 (Y.sp a S fun l hl=>hap0 _ hx l l' hl rfl) ?_;intro S' e'
        exact ⟨a,rfl,⟨⟨vs,n,e'.trans e,r⟩,S'⟩,hd⟩
    induction sl using Slot.casesOn with
    | unset=>exact hp0.elim
    | val d=>
      refine hS (sl:= .val d) O T.inv (fun _ _=>⟨v,rfl,hp0⟩) (fun l e=>by cases e) fun s' Y=> ?_
      exact ih hl' (T.trans Y.ssV) (hrest s' Y) hap1 h
    | own l=>
      refine x13 hp0 ?_;(try clear hp0);intro a hq1 P hd;subst hq1
      exact hS.own O T.inv P fun s' Y=>ih hl' (Y.ssO T hd) (hrest s' Y) hap1 h
inductive Names (G:Top0) (N:Nat) (cx:Cx):List Expr→List Nat→Prop
  | nil:Names G N cx [] []
  | cons {n p i es is}:Stores G N cx i n→Names G N cx es is→Names G N cx (.Name n p::es) (i::is)
theorem Names.sets {env:Env} {es is} (x:Names G N cx es is):Sets G N cx env ((assignEach es env).map (·.2)) is∧(assignEach es env).findIdx? (·.1)=none∧(assignEach es env).length=is.length∧es.length=is.length:=by
  induction x with
  | nil=>exact ⟨.nil,rfl,rfl,rfl⟩
  | cons a b ih=>
    refine x04 ih ?_;(try clear ih);intro h1 h2 h3 h4
    refine ⟨.cons a (fun h=>PyProof.Rows.assign_Name h) h1,?_,congrArg (· +1) h3,congrArg (· +1) h4⟩
    refine (List.findIdx?_cons (xs:=assignEach _ env)).trans ?_
    rw [h2];rfl
noncomputable def SemTgt (G:Top0) (N:Nat) (cx:Cx) (t:Expr) (ts:List Nat):Prop:=∀ ⦃A env act g s st v d st'⦄ ⦃Q:Unit→Shared→Prop⦄ ⦃E:Value→Shared→Prop⦄,Ok N cx A env→Inv G cx act env g s st→Rel G.prog G.w g v d→bindT ts d st=some st'→
  (∀ s',SStep G cx act env g s st g s' st'→Q () s')→wpAny (model G.prog G.w) A (assign t env v) Q E s
theorem SemTgt.name {n:Str} {p:Pos} {i:Nat} (hS:Stores G N cx i n):SemTgt G N cx (.Name n p) [i]:=by
  intro A env act g s st v d st' Q E O I r e h
  induction e using someE
  exact PyProof.Rows.assign_Name (hS.val O I r h)
theorem foldl_map_val (ts:List Nat) (l:List V) (st:St):(ts.zip (l.map Slot.val)).foldl (fun st p=>st.set p.1 p.2) st=(ts.zip l).foldl (fun st p=>st.set p.1 (.val p.2)) st:=by
  induction ts generalizing l st with
  | nil=>rfl
  | cons t ts ih=>
    induction l using List.casesOn with
    | nil=>rfl
    | cons d l=>exact ih l _
theorem bindT_tup {i j:Nat} {ts:List Nat} {d:V} {st st':St} (e:bindT (i::j::ts) d st=some st'):∃ l,d= .tup l∧l.length=(i::j::ts).length∧st'=((i::j::ts).zip l).foldl (fun st p=>st.set p.1 (.val p.2)) st:=by
  induction d using V.cs with
  | tup l=>
    rw [bindT2] at e
    split at e
    · rename_i hl
      induction e using someE
      exact ⟨l,rfl,hl,rfl⟩
    · exact noneE e
  | _=>exact noneE e
theorem zip_map_fst {α β:Type} {l:List α} {r:List β} (h:l.length=r.length):(l.zip r).map (·.1)=l:=List.map_fst_zip (by lia)
theorem zip_map_snd {α β:Type} {l:List α} {r:List β} (h:l.length=r.length):(l.zip r).map (·.2)=r:=List.map_snd_zip (by lia)
theorem Rels.pok {act:Act} {env:Env} {h0:Heap} {g:Gh} {s:Shared} {st:St} {vs ds} (x:Rels G.prog G.w g vs ds):(∀ x∈vs.zip (ds.map Slot.val),POk G cx act env h0 g s st x.1 x.2)∧Apart (vs.zip (ds.map Slot.val)):=by
  refine x.ind (motive:=fun vs ds=>(∀ x∈vs.zip (ds.map Slot.val),POk G cx act env h0 g s st x.1 x.2)∧Apart (vs.zip (ds.map Slot.val))) ⟨fun _ h=>(nomatch h),List.Pairwise.nil⟩ ?_
  · rintro v d vs ds a b ⟨h1,h2⟩
    refine ⟨?_,List.Pairwise.cons (fun _ _ l _ e=>by cases e) h2⟩
    intro x hx
    simp only [List.map_cons,List.zip_cons_cons,List.mem_cons] at hx
    rcases hx with rfl | hx
    · exact a
    · exact h1 x hx
theorem storeVals {A:Around} {env:Env} {act:Act} {g0 g:Gh} {s0 s:Shared} {st0 st:St} {Q:Unit→Shared→Prop} {E:Value→Shared→Prop} {fs:List (Value→Sem Unit)} {is:List Nat} {vs:List Value} {ds:List V} (O:Ok N cx A env)
    (hs:Sets G N cx env fs is) (hl:is.length=ds.length) (T:SStep G cx act env g0 s0 st0 g s st) (r:Rels G.prog G.w g vs ds)
    (h:∀ s',SStep G cx act env g0 s0 st0 g s' ((is.zip ds).foldl (fun st p=>st.set p.1 (.val p.2)) st)→Q () s'):wpAny (model G.prog G.w) A (assignInOrder fs vs) Q E s:=by
  have hv:vs.length=(ds.map Slot.val).length:=by rw [List.length_map];exact r.length
  refine x02 (r.pok (cx:=cx) (act:=act) (env:=env) (h0:=s0.heap) (s:=s) (st:=st)) ?_;intro p1 p2
  have:=storeAll (G:=G) (Q:=Q) (E:=E) (xs:=vs.zip (ds.map Slot.val)) O hs (by rw [List.length_zip,← hv,r.length];lia) T p1 p2 fun s' S=>by
    rw [zip_map_snd hv,foldl_map_val] at S
    exact h s' S
  rw [zip_map_fst hv] at this
  exact this
theorem SemTgt.tup {es:List Expr} {k:Nat} {p:Pos} {i j:Nat} {ts:List Nat} (hn:Names G N cx es (i::j::ts)):SemTgt G N cx (.Tuple es k p) (i::j::ts):=by
  intro A env act g s st v d st' Q E O I r e h
  refine x13 (bindT_tup e) ?_;intro l hq1 hl hq3;subst hq1;subst hq3
  refine x04 (hn.sets (env:=env)) ?_;intro h1 h2 h3 _
  cases r with
  | tup eg r=>
    rename_i a n vs
    refine wpAny_assign_Tuple O.handled (items:=vs.toArray) ⟨_,I.gh _ _ eg,rfl,n,rfl⟩ (by rw [h3,List.size_toArray,r.length,hl]) h2 fun h' he=> ?_
    have T:=I.step (s':={ s with heap:=h'}) (Ext.keep I.gh (keep_of_extBut he)) rfl rfl
    exact storeVals O h1 hl.symm T.ss r h
theorem SemS.for {t it:Expr} {ts:List Nat} {body:List Stmt} {pos:Pos} {fi:LF} {f:SF} (ht:SemTgt G N cx t ts) (hi:SemI G N cx it fi) (hb:SemB G N cx body f)
    (hs:∀ env x,foldedSetIterable it env x=pure x):SemS G N cx (.For t it body [] pos) (sFor ts fi f):=by
  intro A env act g s st b st' Q E O I hf h
  refine bind2 hf ?_;clear hf;intro ds st1 e1 hf
  refine wpAny_For (hi O I e1 fun v g1 s1 T1 hv hlen=>hv T1.inv.gh fun o U hof W h0=> ?_) (hs env)
  have hd0:=dead_end s1.heap (Nat.le_refl _)
  have M:=T1.inv.madeU o
  have S0:=Spare.new T1.inv hof
  refine codeAny_forLoop_any (fun k s'=>∃ (i:Nat) (g':Gh) (st2:St),k=ds.length - i∧i≤ds.length∧SStep G cx act env g s st g' s' st2∧g1.le g'∧Spare cx act env g' s' st2 s1.heap.objs.size∧U i s'.heap∧forLoop ts f (ds.drop i) st2=some (b,st')) ?_ ds.length
    ⟨0,g1,st1,by lia,by lia,(T1.trans M).ss,.refl _,S0,h0,by simpa using hf⟩
  rintro k s2 ⟨i,g2,st2,rfl,hi',S2,le2,sp2,hSt,e2⟩
  have hdead:s.heap.get? s1.heap.objs.size=none:=T1.ext.alive _ hd0
  by_cases hlt:i<ds.length
  · have hdi:ds[i]? =some ds[i]:=by simp [hlt]
    rw [List.drop_eq_getElem_cons hlt] at e2
    refine x12 (opt_bind (x:=bindT ts ds[i] st2) e2) ?_;intro st3 e3 e2
    obtain ⟨⟨fl,st4⟩,e4,e2⟩:=opt_bind (x:=f st3) e2
    refine W.item O.handled le2 hdi hSt fun v h' tk hr hSt' he=> ?_
    have S3:=S2.poke sp2 hdead he tk
    have sp3:=sp2.poke S2.inv he tk sp2 (W.live hSt')
    refine W.go hSt' ?_
    refine ht O S3.inv hr e3 fun s4 S4=> ?_
    refine hb O S4.inv e4 fun rf g5 s5 S5 hr5=> ?_
    have S6:=S4.trans S5
    refine x02 (S6.sp _ sp3) ?_;intro sp6 k6
    induction fl using Fl.casesOn with
    | next=>
      cases rf <;> try (exact hr5.elim)
      exact ⟨ds.length - (i+1),by lia,i+1,g5,st4,rfl,hlt,S3.trans S6,le2.trans S6.le,sp6,W.frame hSt' (le2.trans S6.le) S6.inv.gh k6,e2⟩
    | ret d=>
      cases rf <;> try (exact hr5.elim)
      induction e2 using pairE
      exact h _ g5 s5 (S3.trans S6) hr5
  · have:i=ds.length:=by lia
    subst this
    rw [List.drop_length] at e2
    induction e2 using pairE
    refine W.done O.handled hSt fun h' tk he=> ?_
    exact wpAny_execs_nil (h _ g2 _ (S2.poke sp2 hdead he tk) trivial)
end
end Mine
end
section
open PySem PySem.Calls PyProof.Rows PySem.W
set_option maxRecDepth 10000
namespace Mine
section
variable {G:Top0} {N:Nat} {cx:Cx}
section
variable {act:Act} {env:Env} {g g':Gh} {s s':Shared} {st st':St}
theorem Inv.fetch_lst (I:Inv G cx act env g s st) {a:Addr} {vs:List Value} {n:Nat} (e:s.heap.get? a=some (LstO vs n)) {h':Heap} (hs:Heap.SameBut a s.heap h') {p:Loc} (hp:p∈cx.places∨∃ b,cx.obj=some (p,b)):
    fetch h' env act.dx p=fetch s.heap env act.dx p:=by
  cases p with
  | loc m=>exact congrFun (nsMap_keep I.locN fun o x=>(hs.2 _ (ns_ne_lst I.locN e)).trans x).2 m
  | cell m=>
    show (match env.cells.lookup m with | some c=>cellVal h' c | none=>none)=(match env.cells.lookup m with | some c=>cellVal s.heap c | none=>none)
    cases q:env.cells.lookup m with
    | none=>rfl
    | some c=>
      refine x11 (I.cellsLt hp q) ?_;intro v hc
      show cellVal h' c=cellVal s.heap c
      unfold cellVal;rw [hs.2 c (cell_ne_lst hc e)]
  | fld m=>
    cases ho:cx.obj with
    | none=>
      rcases hp with hp | ⟨b,hp⟩
      · exact absurd hp (I.nofld ho m)
      · rw [ho] at hp;exact noneE hp
    | some pb=>
      obtain ⟨p,b⟩:=pb
      have hd:=(I.obj p b ho).1.1.1
      exact congrFun (nsMap_keep hd fun o x=>(hs.2 _ (ns_ne_lst hd e)).trans x).2 m
theorem Inv.putL (I:Inv G cx act env g s st) {i:Nat} {p:Loc} {l l':List V} {a:Addr} {vs vs':List Value} {n n':Nat} {h':Heap} (t:Nat) (hp:cx.places[i]? =some p) (hl:st[i]? =some (.own l))
    (hf:fetch s.heap env act.dx p=some (.ref a)) (e:s.heap.get? a=some (LstO vs n)) (hs:Heap.SameBut a s.heap h') (e':h'.get? a=some (LstO vs' n')) (r:Rels G.prog G.w g vs' l'):
    Step G cx act env g s st g { s with heap:=h',toks:=t} (st.set i (.own l')):=by
  refine x35 (I.slots i p _ hp hl) ?_;intro a' vs0 n0 q1 q2 q3 q4 q5
  rw [hf] at q1;cases q1
  have hf':∀ q,(q∈cx.places∨∃ b,cx.obj=some (q,b))→fetch h' env act.dx q=fetch s.heap env act.dx q:=fun q hq=>I.fetch_lst e hs hq
  have hi:i<st.length:=(List.getElem?_eq_some_iff.mp hl).1
  have ht:∀ b,Touch cx act env { s with heap:=h',toks:=t} (st.set i (.own l')) b→Touch cx act env s st b:=by
    intro b hb
    refine hb.imp id fun ⟨j,q,m,hq,hm,hfe⟩=> ?_
    have hfe:fetch h' env act.dx q=some (.ref b):=hfe
    rw [hf' q (.inl (List.mem_of_getElem? hq))] at hfe
    rcases get_set hm with ⟨rfl,hm,_⟩ | ⟨_,hm⟩
    · exact ⟨i,q,l,hq,hl,hfe⟩
    · exact ⟨j,q,m,hq,hm,hfe⟩
  have hT:Touch cx act env s st a:= .inr ⟨i,p,l,hp,hl,hf⟩
  have gh:g.inH h':=fun b o x=>by
    have:b≠a:=by rintro rfl;rw [q3] at x;exact noneE x
    exact (hs.2 b this).trans (I.gh b o x)
  have al:∀ b,h'.get? b=none→s.heap.get? b=none:=fun b x=>by
    by_cases hba:b=a
    · subst hba;rw [e'] at x;exact noneE' x
    · rw [hs.2 b hba] at x;exact x
  refine ⟨⟨I.gens,I.os,I.base,⟨I.ext.gg,gh,fun b o x nW=> ?_,I.ext.priv,fun b x=>I.ext.alive b (al b x)⟩,I.locL,I.locG,?_,by rw [List.length_set];exact I.len,fun m hm=> ?_,fun j q sl hq hsl=> ?_,fun j k q q' m m' hjk hq hq' h1 h2=> ?_,fun q b hq=> ?_,I.nofld,I.ownC⟩,
    ⟨.refl g,gh,fun b o x nW=> ?_,fun _ _ _ x _=>x,al⟩,fun b hb=> .inl (ht b hb)⟩
  · have:b≠a:=by rintro rfl;exact q4.elim (fun z=>by rw [x] at z;exact noneE' z) nW
    exact (hs.2 b this).trans (I.ext.hh b o x nW)
  · exact (nsMap_keep I.locN fun o x=>(hs.2 _ (ns_ne_lst I.locN e)).trans x).1
  · refine x23 (I.cell m hm) ?_;intro c v x1 x2 x3
    exact ⟨c,v,x1,x2.sameBut hs (cell_ne_lst x2 e),x3⟩
  · show SlotOk G act g h' (fetch h' env act.dx q) sl
    rw [hf' q (.inl (List.mem_of_getElem? hq))]
    rcases get_set hsl with ⟨rfl,rfl,_⟩ | ⟨hne,hsl⟩
    · rw [hp] at hq;induction hq using someE
      exact ⟨a,vs',n',hf,e',q3,q4,r⟩
    · have:=I.slots j q sl hq hsl
      induction sl using Slot.casesOn with
      | unset=>trivial
      | val d=>exact this
      | own m=>
        refine x35 this ?_;(try clear this);intro b ws k y1 y2 y3 y4 y5
        refine ⟨b,ws,k,y1,?_,y3,y4,y5⟩
        have:b≠a:=by
          rintro rfl
          exact I.apart i j p q l m hne hp hq hl hsl (hf.trans y1.symm)
        exact (hs.2 b this).trans y2
  · show fetch h' env act.dx q≠fetch h' env act.dx q'
    rw [hf' q (.inl (List.mem_of_getElem? hq)),hf' q' (.inl (List.mem_of_getElem? hq'))]
    have h1:∃ m,st[j]? =some (.own m):=by
      rcases get_set h1 with ⟨rfl,_,_⟩ | ⟨_,h1⟩
      · exact ⟨l,hl⟩
      · exact ⟨m,h1⟩
    have h2:∃ m,st[k]? =some (.own m):=by
      rcases get_set h2 with ⟨rfl,_,_⟩ | ⟨_,h2⟩
      · exact ⟨l,hl⟩
      · exact ⟨m',h2⟩
    refine x11 h1 ?_;(try clear h1);intro m1 h1
    refine x11 h2 ?_;(try clear h2);intro m2 h2
    exact I.apart j k q q' m1 m2 hjk hq hq' h1 h2
  · obtain ⟨⟨o1,o2,o3,o4⟩,o5,o6,o7⟩:=I.obj q b hq
    refine ⟨⟨o1.keep fun o x=>(hs.2 _ (ns_ne_lst o1.1 e)).trans x,o2,o3,o4⟩,(hf' q (.inr ⟨b,hq⟩)).trans o5,o6,fun m hm=> ?_⟩
    refine x23 (o7 m hm) ?_;intro c v x1 x2 x3
    exact ⟨c,v,x1,x2.sameBut hs (cell_ne_lst x2 e),x3⟩
  · have:b≠a:=by rintro rfl;exact nW hT
    exact (hs.2 b this).trans x
theorem Step.fetch_loc (T:Step G cx act env g s st g' s' st') (I:Inv G cx act env g s st) (n:Str):fetch s'.heap env act.dx (.loc n)=fetch s.heap env act.dx (.loc n):=by
  have nt: ¬ Touch cx act env s st env.locals:=by
    rintro (⟨ho,e⟩ | ⟨i,p,l,hp,hl,e⟩)
    · cases hc:cx.obj with
      | none=>rw [hc] at ho;exact ftE ho
      | some pb=>exact (I.obj pb.1 pb.2 hc).1.2.2.1 e.symm
    · refine x33 (I.slots i p _ hp hl) ?_;intro b vs k e1 e2 _
      rw [e] at e1;cases e1
      exact ns_ne_lst I.locN e2 rfl
  exact congrFun (nsMap_keep I.locN fun o x=>T.ext.hh _ o x nt).2 n
end
noncomputable def SemP (G:Top0) (N:Nat) (cx:Cx) (e:Expr) (i:Nat) (p:Loc):Prop:=∀ ⦃A env act g s st l⦄ ⦃Q E:Value→Shared→Prop⦄,Ok N cx A env→Inv G cx act env g s st→(st[i]?).bind listS=some l→
  (∀ a vs n g' s',Step G cx act env g s st g' s' st→s'.heap=s.heap→fetch s'.heap env act.dx p=some (.ref a)→s'.heap.get? a=some (LstO vs n)→Rels G.prog G.w g' vs l→Q (.ref a) s')→wpAny (model G.prog G.w) A (eval e env) Q E s
theorem Inv.listAt {act:Act} {env:Env} {g:Gh} {s:Shared} {st:St} (I:Inv G cx act env g s st) {i:Nat} {p:Loc} {l:List V} (hp:cx.places[i]? =some p) (hl:(st[i]?).bind listS=some l):
    ∃ a vs n,fetch s.heap env act.dx p=some (.ref a)∧s.heap.get? a=some (LstO vs n)∧Rels G.prog G.w g vs l:=by
  cases e:st[i]? with
  | none=>rw [e] at hl;exact noneE hl
  | some sl=>
    rw [e] at hl
    have:=I.slots i p sl hp e
    induction sl using Slot.casesOn with
    | unset=>exact noneE hl
    | val d=>
      induction d using V.cs <;> simp only [Option.bind_some,listS] at hl <;> (first | exact noneE hl | induction hl using someE)
      refine x12 this ?_;(try clear this);intro v h1 h2
      cases h2 with
      | lst h2 h3=>exact ⟨_,_,_,h1,I.gh _ _ h2,h3⟩
    | own m=>
      simp only [Option.bind_some,listS] at hl
      induction hl using someE
      refine x35 this ?_;(try clear this);intro b ws k y1 y2 y3 y4 y5
      exact ⟨b,ws,k,y1,y2,y5⟩
theorem SemP.loc {n:Str} {pos:Pos} {i:Nat} (hp:cx.places[i]? =some (.loc n)) (hk:cx.sc.names.lookup n=some .local) (hd:(n==("__debug__":Str))=false):SemP G N cx (.Name n pos) i (.loc n):=by
  intro A env act g s st l Q E O I hl h
  refine x33 (I.listAt hp hl) ?_;intro a vs k e1 e2 e3
  exact wpAny_Name (wp_loadName_fetch O I hk e1 (h a vs k g s (.refl I) rfl e1 e2 e3)) hd
theorem SemE.lenS {e:Expr} {p pos:Pos} {i:Nat} {q:Loc} (B:Bi G cx "len" (.builtin "len")) (hP:SemP G N cx e i q) (he:isStarred e=false):SemE G N cx (.Call (.Name "len" p) [e] [] pos) (eLenS i):=by
  intro A env act g s st d st' Q E O I hf h
  refine bind1 hf ?_;clear hf;intro l e1 hf
  refine bind1 hf ?_;clear hf;intro r e2 hf
  cases hf using pairE
  refine wpAny_Call_NameR (B.load O I (PyProof.Rows.callWith_builtin1 ?_ (starEach_plain he env) rfl))
  refine wpAny_items_cons (hP O I e1 fun a vs n g' s' T hh hf hg hr=>wpAny_items_nil ?_) (starEach_plain he env)
  simp only [lenV] at e2
  split at e2
  · rename_i hl
    induction e2 using someE
    have hlen:=hr.length
    have:lim=1000000:=rfl
    refine call_len_list (isLst_of hg) (by rw [List.size_toArray];lia) ?_
    rw [List.size_toArray,hlen]
    exact h _ g' _ (T.trans (T.inv.stepT _)) (.int _ _)
  · exact noneE e2
noncomputable def Still (f:EF):Prop:=∀ st k st',f st=some (.int k,st')→st'=st
theorem Still.cst {d:V}:Still (eCst d):=by
  intro st k st' h
  cases h;rfl
theorem Still.var {i:Nat}:Still (eVar i):=by
  intro st k st' h
  unfold eVar at h
  split at h <;> (first | exact noneE h | cases h)
  rfl
theorem SemE.getS {n:Str} {p pos:Pos} {i:Nat} {e:Expr} {f:EF} (hp:cx.places[i]? =some (.loc n)) (hP:SemP G N cx (.Name n p) i (.loc n)) (hx:SemE G N cx e f) (hst:Still f)
    (hs:∀ o i,∃ ops,subscripted e false o i=operate ops (getItem o i)):SemE G N cx (.Subscript (.Name n p) e pos) (eGetS i f):=by
  intro A env act g s st d st' Q E O I hf h
  refine bind2 hf ?_;clear hf;intro k st1 e1 hf
  refine bind1 hf ?_;clear hf;intro l e2 hf
  refine bind1 hf ?_;clear hf;intro r e3 hf
  cases hf using pairE
  induction k using V.cs with
  | int k=>
    have:=hst _ _ _ e1
    subst this
    simp only [idxV] at e3
    split at e3
    · rename_i hc
      refine Subscript_ (hP O I e2 fun a vs n g1 s1 T hh hfe hg hr=>hx O T.inv e1 fun iv g2 s2 T2 r2=> ?_)
      cases r2
      rename_i tk
      refine x11 (hs (.ref a) (.int k tk)) ?_;intro ops hop
      refine x33 (T2.inv.listAt hp e2) ?_;intro a' vs' n' q1 q2 q3
      rw [T2.fetch_loc T.inv] at q1
      rw [hfe] at q1;cases q1
      refine x12 (q3.get _ e3) ?_;intro v hv hr2
      have hlen:=q3.length
      have:lim=1000000:=rfl
      have hlt:k.toNat<vs'.length:=(List.getElem?_eq_some_iff.mp hv).1
      exact tail_any (isLst_of q2).typeIs slot_list_getitem.lookup (wpAny_getItem_list (isLst_of q2) hc.1 (by lia) (by simpa using hv) (h v g2 _ (T.trans T2) hr2)) hop
    · exact noneE e3
  | _=>simp [idxV] at e3
theorem SemS.aug {n:Str} {pp pos:Pos} {i:Nat} {op:Operator} {e:Expr} {f:EF} (hS:Stores G N cx i n) (hl:∀ {A env act g s st d st'} {Q E:Value→Shared→Prop},Ok N cx A env→Inv G cx act env g s st→eVar i st=some (d,st')→
      (∀ v g' s',Step G cx act env g s st g' s' st'→Rel G.prog G.w g' v d→Q v s')→wpAny (model G.prog G.w) A (loadName env n) Q E s)
    (hx:SemE G N cx e f) (ho:op= .Add∨op= .BitAnd∨op= .BitOr):SemS G N cx (.AugAssign (.Name n pp) op e pos) (sAug i op f):=by
  intro A env act g s st b st' Q E O I hf h
  refine bind2 hf ?_;clear hf;intro x st1 e1 hf
  refine bind2 hf ?_;clear hf;intro y st2 e2 hf
  induction x using V.cs with
  | int a=>
    induction y using V.cs with
    | int c=>
      refine bind1 hf ?_;clear hf;intro r e3 hf
      cases hf using pairE
      refine wpAny_AugAssign_Name (hl O I e1 fun v g1 s1 T1 r1=>hx O T1.inv e2 fun u g2 s2 T2 r2=> ?_)
      cases r1;cases r2
      have fin:∀ k,r= .int k→wpAny (model G.prog G.w) A (storeName env n (.int k s2.toks)) (fun _=>Q .next) E { s2 with toks:=s2.toks+1}:=by
        rintro k rfl
        exact hS.val O (T2.inv.stepT _).inv (.int k _) fun s3 S3=>h _ g2 s3 (((T1.trans T2).trans (T2.inv.stepT _)).ss.trans S3) trivial
      rcases ho with rfl | rfl | rfl <;> simp only [binV] at e3 <;> induction e3 using someE
      · exact P.iadd_int (fin _ rfl)
      · exact iand_int (fin _ rfl)
      · exact ior_int (fin _ rfl)
    | _=>exact noneE hf
  | _=>exact noneE hf
noncomputable def SemQ (G:Top0) (N:Nat) (cx:Cx) (e:Expr) (f:EF):Prop:=∀ ⦃A env act g s st d st'⦄ ⦃Q E:Value→Shared→Prop⦄,Ok N cx A env→Inv G cx act env g s st→f st=some (d,st')→
  (∀ v g' s',Step G cx act env g s st g' s' st'→s'.heap=s.heap→Rel G.prog G.w g' v d→Q v s')→wpAny (model G.prog G.w) A (eval e env) Q E s
theorem Inv.ownAt {act:Act} {env:Env} {g:Gh} {s:Shared} {st:St} (I:Inv G cx act env g s st) {i:Nat} {p:Loc} {l:List V} (hp:cx.places[i]? =some p) (hl:st[i]? =some (.own l)):
    ∃ a vs n,fetch s.heap env act.dx p=some (.ref a)∧s.heap.get? a=some (LstO vs n)∧Rels G.prog G.w g vs l:=by
  refine x35 (I.slots i p _ hp hl) ?_;intro b ws k y1 y2 y3 y4 y5
  exact ⟨b,ws,k,y1,y2,y5⟩
theorem appCore {A:Around} {env:Env} {act:Act} {g:Gh} {s:Shared} {st:St} {i:Nat} {p:Loc} {l:List V} {a:Addr} {v:Value} {d:V} {Q E:Value→Shared→Prop} (I:Inv G cx act env g s st)
    (hp:cx.places[i]? =some p) (hl:st[i]? =some (.own l)) (hf:fetch s.heap env act.dx p=some (.ref a)) (hlim:l.length<lim) (r:Rel G.prog G.w g v d)
    (h:∀ s',Step G cx act env g s st g s' (st.set i (.own (l++[d])))→Q .none s'):wpAny (model G.prog G.w) A (call (.builtin "list.append") [.ref a,v]) Q E s:=by
  refine x33 (I.ownAt hp hl) ?_;intro a' vs n q1 q2 q3
  rw [hf] at q1;cases q1
  refine wpAny_list_append_plain (items:=vs.toArray) ⟨n,q2⟩ (fun h' ⟨n',e'⟩ hs=> ?_) (by rw [List.size_toArray,q3.length];have:=lim_le;lia)
  rw [show vs.toArray.push v=(vs++[v]).toArray by simp] at e'
  exact h _ (I.putL (h':=h') s.toks hp hl hf q2 hs e' (q3.append (.cons r .nil)))
theorem wpAny_setItem_list' {A:Around} {s:Shared} {l:Addr} {vs:List Value} {n:Nat} {k:Int} {t:Tok} {v:Value} {Q:Unit→Shared→Prop} {E:Value→Shared→Prop} (ho:s.heap.get? l=some (LstO vs n)) (h0:0≤k) (hfit:k<2 ^ 63) (hn:k<vs.length)
    (hQ:∀ h' n',h'.get? l=some (LstO (vs.set k.toNat v) n')→Heap.SameBut l s.heap h'→Q () { s with heap:=h'}):
    wpAny (model G.prog G.w) A (setItem (.ref l) (.int k t) v) Q E s:=by
  have hT:s.TypeIs (.ref l) "list":=⟨_,ho,rfl⟩
  unfold setItem
  try with_reducible refine wpAny_holding ?_
  first | refine wpAny_bind (wpAny_pure ?_) | skip
  refine wpAny_bind (wpAny_sequenceKey hT (by decide) ?_)
  refine wpAny_bind (wpAny_callSpecial?_slot (name:=Str.ofString "__setitem__") hT slot_list_setitem
    (wpAny_call_entry slot_list_setitem hT entry_list_setitem ?_ (args_list_setitem _ _ _)))
  show wpAny _ _ (Builtin.List.listSubscript? (.int k t) >>= _) _ _ s
  refine wpAny_bind (wpAny_listSubscript_int (fitsIndex_of h0 hfit) ?_)
  clear hfit
  refine x11 (Int.eq_ofNat_of_zero_le h0) ?_;intro j hq1;subst hq1
  have hj:j<vs.length:=by lia
  have hx':vs.toArray[j]? =some vs[j]:=by simp [hj]
  show wpAny _ _ ((seqItemAt l j >>= fun r=>pure (r.map (j,·))) >>= _) _ _ s
  refine wpAny_bind (wpAny_bind (wpAny_seqItemAt ho rfl (wpAny_pure ?_)))
  rw [hx']
  show wpAny _ _ (setSeqItemAt l j v >>= _) _ _ s
  have hfin:(s.heap.update l (Obj.mapSeq (·.setIfInBounds j v))).get? l=some (LstO (vs.set j v) n):=by
    rw [Heap.get?_update_self _ ho (by rfl)]
    simp [LstO,Obj.mapSeq]
  refine wpAny_bind (wpAny_setSeqItemAt ho rfl ?_)
  first
    | exact wpAny_bind (wpAny_pure (wpAny_pure ⟨.none,rfl,wpAny_pure (hQ _ _ hfin (Heap.SameBut.update ..))⟩))
    | exact wpAny_pure ⟨.none,rfl,wpAny_pure (hQ _ _ hfin (Heap.SameBut.update ..))⟩
theorem SemS.app {o e:Expr} {apos cpos pos:Pos} {i:Nat} {p:Loc} {f:EF} (hp:cx.places[i]? =some p) (hP:SemP G N cx o i p)
    (hx:(SemE G N cx e f∧∃ n,p= .loc n)∨SemQ G N cx e f) (he:isStarred e=false)
    (hbase:∀ env whole,attributeBase o "append" env whole=whole) (hline:(apos.endLine==cpos.line)=true):
    SemS G N cx (.Expr (.Call (.Attribute o "append" apos) [e] [] cpos) pos) (sApp i f):=by
  intro A env act g s st b st' Q E O I hf h
  refine bind1 hf ?_;clear hf;intro l0 e0 hf
  refine bind2 hf ?_;clear hf;intro x st1 e1 hf
  dsimp only at hf
  cases hl1:st1[i]? with
  | none=>rw [hl1] at hf;exact noneE hf
  | some sl=>
    rw [hl1] at hf
    induction sl using Slot.casesOn with
    | own l=>
      dsimp only at hf
      split at hf
      · rename_i hlim
        cases hf using pairE
        refine wpAny_Expr_any ?_ (by unfold interactive;rw [O.sc,O.kind];rfl) rfl
        refine wpAny_Call_append (hbase env _) (by rw [starEach_plain he];rfl) hline (by rw [starEach_plain he];rfl) ?_
        refine hP O I e0 fun a vs n g1 s1 T1 hh hfe hg hr=>⟨a,vs.toArray,rfl,⟨_,n,hg,rfl,rfl,rfl⟩,?_⟩
        have fin:∀ v g2 s2,Step G cx act env g1 s1 st g2 s2 st1→fetch s2.heap env act.dx p=fetch s1.heap env act.dx p→Rel G.prog G.w g2 v x→
            wpAny (model G.prog G.w) A (call (.builtin "list.append") [.ref a,v]) (fun _=>Q .next) E s2:=by
          intro v g2 s2 T2 hk hr2
          exact appCore T2.inv hp hl1 (hk.trans hfe) hlim hr2 fun s3 T3=>h _ _ _ ((T1.trans T2).trans T3).ss trivial
        rcases hx with ⟨hx,n,rfl⟩ | hx
        · exact hx O T1.inv e1 fun v g2 s2 T2 r2=>fin v g2 s2 T2 (T2.fetch_loc T1.inv n) r2
        · exact hx O T1.inv e1 fun v g2 s2 T2 h2 r2=>fin v g2 s2 T2 (by rw [h2]) r2
      · exact noneE hf
    | _=>exact noneE hf
theorem SemS.setIdx {n:Str} {p pp pos:Pos} {i:Nat} {k e:Expr} {fk f:EF} (hp:cx.places[i]? =some (.loc n)) (hP:SemP G N cx (.Name n p) i (.loc n)) (hk:SemE G N cx k fk) (hst:Still fk) (hx:SemE G N cx e f)
    (hs:∀ env,swapsWith e (some (.Subscript (.Name n p) k pp)) pos.line env=pure false):SemS G N cx (.Assign [.Subscript (.Name n p) k pp] e pos) (sSetIdx i fk f):=by
  intro A env act g s st b st' Q E O I hf h
  refine bind2 hf ?_;clear hf;intro x st1 e1 hf
  refine bind1 hf ?_;clear hf;intro l0 e0 hf
  refine bind2 hf ?_;clear hf;intro y st2 e2 hf
  dsimp only at hf
  cases hl1:st2[i]? with
  | none=>rw [hl1] at hf;exact noneE hf
  | some sl=>
    rw [hl1] at hf
    induction sl using Slot.casesOn with
    | own l=>
      induction y using V.cs with
      | int j=>
        dsimp only at hf
        split at hf
        · rename_i hc
          cases hf using pairE
          have:=hst _ _ _ e2
          subst this
          refine wpAny_Assign_Subscript (hx O I e1 fun v g1 s1 T1 r1=>hP O T1.inv e0 fun a vs n g2 s2 T2 hh hfe hg hr=>hk O T2.inv e2 fun iv g3 s3 T3 r3=> ?_) (hs env)
          cases r3
          refine x33 (T3.inv.ownAt hp hl1) ?_;intro a' vs' n' q1 q2 q3
          rw [T3.fetch_loc T2.inv,hfe] at q1
          cases q1
          have hlen:=q3.length
          have:lim=1000000:=rfl
          refine x11 (Int.eq_ofNat_of_zero_le hc.1) ?_;intro j' hq1;subst hq1
          have hj:=hc.2.1
          simp only [Int.toNat_natCast] at hj
          refine wpAny_setItem_list' q2 (by lia) (by lia) (by lia) fun h' n'' e' hs'=> ?_
          exact h _ _ _ (((T1.trans T2).trans T3).trans (T3.inv.putL (h':=h') s3.toks hp hl1 ((T3.fetch_loc T2.inv _).trans hfe) q2 hs' e' (by
            have r:=r1.le (T2.gg.trans T3.gg)
            simpa using q3.set j' r))).ss trivial
        · exact noneE hf
      | _=>exact noneE hf
    | _=>exact noneE hf
theorem SemS.unp {es:List Expr} {k:Nat} {p pos:Pos} {ts:List Nat} {e:Expr} {f:EF} (ht:SemTgt G N cx (.Tuple es k p) ts) (hx:SemE G N cx e f)
    (hs:∀ env,swapsWithSole [.Tuple es k p] e pos.line env=pure false) (hw:∀ env,swappedStores [.Tuple es k p] e env=pure none):SemS G N cx (.Assign [.Tuple es k p] e pos) (sUnp ts f):=by
  intro A env act g s st b st' Q E O I hf h
  refine bind2 hf ?_;clear hf;intro x st1 e1 hf
  refine bind1 hf ?_;clear hf;intro st2 e2 hf
  cases hf using pairE
  exact PyProof.Rows.Assign_Tuple (hx O I e1 fun v g1 s1 T1 r1=>ht O T1.inv r1 e2 fun s2 S2=>h _ g1 s2 (T1.ss.trans S2) trivial) (hs env) (hw env)
inductive SemPart (G:Top0) (N:Nat) (cx:Cx):Expr→Part→Prop
  | v {e i f}:SemE G N cx e f→SemPart G N cx e (.v i f)
  | l {e i f}:SemL G N cx e f→SemPart G N cx e (.l i f)
inductive SemParts (G:Top0) (N:Nat) (cx:Cx):List Expr→List Part→Prop
  | nil:SemParts G N cx [] []
  | cons {e p es ps}:SemPart G N cx e p→isStarred e=false→SemParts G N cx es ps→SemParts G N cx (e::es) (p::ps)
noncomputable def Part.at_:Part→Nat
  | .v i _=>i
  | .l i _=>i
structure Made' (G:Top0) (cx:Cx) (act:Act) (env:Env) (h0:Heap) (g:Gh) (s:Shared) (st:St) (xs:List (Value×Slot)):Prop where
  ok:∀ x∈xs,POk G cx act env h0 g s st x.1 x.2
  ap:Apart xs
theorem POk.step {act:Act} {env:Env} {h0:Heap} {g g':Gh} {s s':Shared} {st st':St} {v:Value} {sl:Slot} (x:POk G cx act env h0 g s st v sl) (T:Step G cx act env g s st g' s' st'):POk G cx act env h0 g' s' st' v sl:=by
  induction sl using Slot.casesOn with
  | unset=>exact x
  | val d=>exact Rel.le T.gg x
  | own l=>
    obtain ⟨a,rfl,⟨⟨vs,n,e,r⟩,S⟩,hd⟩:=x
    exact ⟨a,rfl,⟨⟨vs,n,S.keep T e,r.le T.gg⟩,S.step T⟩,hd⟩
theorem partsRun_ok {A:Around} {env:Env} {act:Act} {pos:Pos} {g0:Gh} {s0:Shared} {st0:St} {E:Value→Shared→Prop} (O:Ok N cx A env)
    {es:List Expr} {ps:List Part} {xs:List (Value×Slot)} {g:Gh} {s:Shared} {st st':St} {ys:List (Nat×Slot)} {Q:List Value→Shared→Prop} (hs:SemParts G N cx es ps) (T:Step G cx act env g0 s0 st0 g s st) (M:Made' G cx act env s0.heap g s st xs)
    (hf:partsRun ps st=some (ys,st'))
    (h:∀ zs g' s',Step G cx act env g0 s0 st0 g' s' st'→Made' G cx act env s0.heap g' s' st' (xs++zs)→zs.map (·.2)=ys.map (·.2)→ys.map (·.1)=ps.map Part.at_→Q (zs.map (·.1)) s'):
    wpAny (model G.prog G.w) A (spliced (backTo pos (starEach es env))) Q E s:=by
  induction hs generalizing xs g s st ys Q with
  | nil=>
    cases hf using pairE
    exact wpAny_items_nil (h [] g s T (by simpa using M) rfl rfl)
  | @cons e p es ps hp he hr ih=>
    refine bind2 hf ?_;clear hf;intro y st1 e1 hf
    refine bind2 hf ?_;clear hf;intro ys' st2 e2 hf
    cases hf using pairE
    cases hp with
    | v hx=>
      refine bind2 e1 ?_;clear e1;intro d st3 e3 e1
      induction e1 using pairE
      refine wpAny_items_cons (hx O T.inv e3 fun v g1 s1 T1 r1=> ?_) (starEach_plain he env)
      refine ih (T.trans T1) (xs:=xs++[(v,.val d)]) ⟨fun x hx=> ?_,?_⟩ e2 fun zs g2 s2 T2 M2 z1 z2=> ?_
      · rcases List.mem_append.mp hx with hx | hx
        · exact (M.ok x hx).step T1
        · cases List.mem_singleton.mp hx;exact r1
      · refine List.pairwise_append.mpr ⟨M.ap,List.pairwise_singleton _ _,fun x _ y hy l l' _ e'=> ?_⟩
        cases List.mem_singleton.mp hy;cases e'
      · exact h ((v,.val d)::zs) g2 s2 T2 (by simpa using M2) (by simp [z1]) (by simp [z2,Part.at_])
    | l hx=>
      refine bind2 e1 ?_;clear e1;intro l st3 e3 e1
      induction e1 using pairE
      refine wpAny_items_cons (hx O T.inv e3 fun a g1 s1 X=> ?_) (starEach_plain he env)
      refine ih (T.trans X.step) (xs:=xs++[(.ref a,.own l)]) ⟨fun x hx=> ?_,?_⟩ e2 fun zs g2 s2 T2 M2 z1 z2=> ?_
      · rcases List.mem_append.mp hx with hx | hx
        · exact (M.ok x hx).step X.step
        · cases List.mem_singleton.mp hx;exact ⟨a,rfl,X.pend,T.ext.alive a X.fresh⟩
      · refine List.pairwise_append.mpr ⟨M.ap,List.pairwise_singleton _ _,fun x hx y hy l1 l2 e1 e2=> ?_⟩
        cases List.mem_singleton.mp hy
        have:=M.ok x hx
        obtain ⟨v,sl⟩:=x
        cases e1
        obtain ⟨b,hb,⟨⟨ws,k,q,_⟩,_⟩,_⟩:=this
        have hb:v= .ref b:=hb
        intro e
        have e:v= .ref a:=e
        rw [hb] at e
        cases e
        exact live_ne q X.fresh rfl
      · exact h ((.ref a,.own l)::zs) g2 s2 T2 (by simpa using M2) (by simp [z1]) (by simp [z2,Part.at_])
theorem Made'.step {act:Act} {env:Env} {h0:Heap} {g g':Gh} {s s':Shared} {st st':St} {xs:List (Value×Slot)} (x:Made' G cx act env h0 g s st xs) (T:Step G cx act env g s st g' s' st'):Made' G cx act env h0 g' s' st' xs:=⟨fun y hy=>(x.ok y hy).step T,x.ap⟩
theorem zip_fst_snd {α β:Type}:∀ (ys:List (α×β)),(ys.map (·.1)).zip (ys.map (·.2))=ys
  | []=>rfl
  | y::ys=>by simp [zip_fst_snd ys]
theorem SemS.tupR {es ts:List Expr} {k k':Nat} {p p' pos:Pos} {ps:List Part} {ns:List Str} (hp:SemParts G N cx es ps) (hn:∀ env,Sets G N cx env (ns.map fun n=>bindName env n) (ps.map Part.at_)) (hlen:ps.length≤sizeLine)
    (hs:∀ env,swapsWithSole [.Tuple ts k p] (.Tuple es k' p') pos.line env=pure false) (hw:∀ env:Env,env.scope=cx.sc→swappedStores [.Tuple ts k p] (.Tuple es k' p') env=pure (some ns)) (hnl:ns.length=ps.length):
    SemS G N cx (.Assign [.Tuple ts k p] (.Tuple es k' p') pos) (sTup true ps):=by
  intro A env act g s st b st' Q E O I hf h
  refine bind2 hf ?_;clear hf;intro ys st1 e1 hf
  cases hf using pairE
  have h1:=(hn env).rev
  refine PyProof.Rows.Assign_Tuple_swapped ?_ (hs env) (hw env O.sc)
  refine wpAny_Tuple (partsRun_ok O hp (.refl I) (xs:=[]) ⟨by simp,.nil⟩ e1 fun zs g1 s1 T1 M1 z1 z2=> ?_)
  have l1:zs.length=ys.length:=by have:=congrArg List.length z1;simpa using this
  have l2:ys.length=ps.length:=by have:=congrArg List.length z2;simpa using this
  refine ⟨by rw [List.length_map];lia,?_⟩
  have T2:=T1.inv.madeU (TupO (zs.map (·.1)) 0)
  have:=wpAny_unpackItems_tuple (prog:=G.prog) (w:=G.w) (A:=A) (E:=E) (s:={ s1 with heap:=s1.heap.push (TupO (zs.map (·.1)) 0)}) (t:=s1.heap.objs.size) (items:=(zs.map (·.1)).toArray)
    (Q:=fun items s₂=>wpAny (model G.prog G.w) A (assignInOrder (ns.reverse.map fun n=>bindName env n) items.reverse) (fun _=>Q .next) E s₂) O.handled ⟨_,Heap.get?_push_size _ rfl,rfl,0,rfl⟩
  rw [show (zs.map (·.1)).toArray.size=ns.length by rw [List.size_toArray,List.length_map];lia] at this
  refine this fun h' he=> ?_
  have T3:=T2.inv.step (s':={ s1 with heap:=h'}) (Ext.keep T2.inv.gh (keep_of_extBut he)) rfl rfl
  have T:=(T1.trans T2).trans T3
  have M:=(M1.step T2).step T3
  rw [List.nil_append] at M
  rw [show (zs.map (·.1)).toArray.toList.reverse=zs.reverse.map (·.1) by simp [List.map_reverse],List.map_reverse]
  refine storeAll O h1 (by simp;lia) T.ss (fun x hx=>M.ok x (List.mem_reverse.mp hx)) M.ap.rev fun s' S=> ?_
  rw [List.map_reverse,z1,← z2,← List.map_reverse,← List.map_reverse,zip_fst_snd] at S
  exact h _ g1 s' S trivial
end
end Mine
end
section
open PySem PySem.Calls PyProof.Rows PySem.W
set_option maxRecDepth 10000
namespace Mine
section
variable {G:Top0} {N:Nat} {cx:Cx}
theorem NewL.keep {act:Act} {env:Env} {g g':Gh} {s s':Shared} {st st':St} {h':Heap} {d:Addr} {vs:List Value} {l:List V} {n:Nat} (T:Step G cx act env g s st g' s' st') (k:∀ b o,s'.heap.get? b=some o→h'.get? b=some o)
    (hd:s'.heap.get? d=none) (e:h'.get? d=some (LstO vs n)) (r:Rels G.prog G.w g' vs l) (t:Nat):NewL G cx act env g s st d l g' { s' with heap:=h',toks:=t} st':=by
  have M:=T.inv.step (s':={ s' with heap:=h',toks:=t}) (Ext.keep T.inv.gh k) rfl rfl
  refine ⟨T.trans M,T.ext.alive _ hd,T.inv.ext.alive _ hd,⟨vs,n,e,r⟩,Gh.fresh T.inv.gh hd,fun h=> ?_,?_⟩
  · obtain hh | hh:=M.touch d h
    · refine x11 (hh.live T.inv) ?_;intro o x
      rw [hd] at x;exact noneE x
    · obtain ⟨i,hi⟩ | ⟨i,p,l,hp,hl,e⟩:=h
      · subst hi
        cases hc:cx.obj with
        | none=>rw [hc] at i;exact ftE i
        | some pb=>
          refine x32 (Heap.Ns.of_isNs (T.inv.obj pb.1 pb.2 hc).1.1.1) ?_;intro o _ _ x _
          rw [hd] at x;exact noneE x
      · have e:fetch h' env act.dx p=some (.ref d):=e
        rw [T.inv.fetch_keep k (List.mem_of_getElem? hp)] at e
        refine x11 (Touch.live T.inv (.inr ⟨i,p,l,hp,hl,e⟩)) ?_;intro o x
        rw [hd] at x;exact noneE x
  · refine x11 T.inv.locLive ?_;intro o e
    exact (live_ne e hd).symm
theorem SemL.of {e:Expr} {p pos:Pos} {f:EF} (B:Bi G cx "list" (.type "list")) (hx:SemE G N cx e f) (he:isStarred e=false):SemL G N cx (.Call (.Name "list" p) [e] [] pos) (lOf f):=by
  intro A env act g s st l st' Q E O I hf h
  refine bind2 hf ?_;clear hf;intro x st1 e1 hf
  refine B.call1T O I hx he e1 fun v g1 s1 T r=> ?_
  induction r using Rel.cs with
  | lst eg r=>
    simp only at hf
    split at hf
    · rename_i hl
      cases hf using pairE
      have o1:=T.inv.gh _ _ eg
      refine call_list_seq _ (.inl rfl) o1 rfl rfl (fun h' c' hk hD=> ?_) (by rw [List.size_toArray,r.length];have:=lim_le;lia)
      exact h _ g1 _ (NewL.keep T hk (dead_end _ (Nat.le_refl _)) hD r s1.toks)
    · exact noneE hf
  | tup eg r=>
    simp only at hf
    split at hf
    · rename_i hl
      cases hf using pairE
      have o1:=T.inv.gh _ _ eg
      refine call_list_seq _ (.inr rfl) o1 rfl rfl (fun h' c' hk hD=> ?_) (by rw [List.size_toArray,r.length];have:=lim_le;lia)
      exact h _ g1 _ (NewL.keep T hk (dead_end _ (Nat.le_refl _)) hD r s1.toks)
    · exact noneE hf
  | _=>exact noneE hf
theorem SemL.add {x y:Expr} {pos:Pos} {a b:EF} (ha:SemE G N cx x a) (hb:SemE G N cx y b):SemL G N cx (.BinOp x .Add y pos) (lAdd a b):=by
  intro A env act g s st l st' Q E O I hf h
  refine bind2 hf ?_;clear hf;intro x st1 e1 hf
  refine bind2 hf ?_;clear hf;intro y st2 e2 hf
  refine wpAny_BinOp (ha O I e1 fun v g1 s1 T1 r1=>hb O T1.inv e2 fun u g2 s2 T2 r2=> ?_)
  induction r1 using Rel.cs with
  | lst eg r=>
    induction r2 using Rel.cs with
    | lst eg2 r2=>
      simp only at hf
      split at hf
      · rename_i hl
        cases hf using pairE
        have o1:=T2.inv.gh _ _ (T2.gg _ _ eg)
        have o2:=T2.inv.gh _ _ eg2
        refine P.add_list o1 o2 ?_ (by rw [List.size_toArray,List.size_toArray,r.length,r2.length];have:=lim_le;lia)
        rw [List.append_toArray]
        exact h _ _ _ (NewL.made (n:=0) (T1.trans T2) ((r.le T2.gg).append r2))
      · exact noneE hf
    | _=>exact noneE hf
  | _=>exact noneE hf
theorem joined_list (vs:List Value):∀ (k:Nat) (acc:List Value),List.foldl (fun x1 x2=>x1++x2) acc.toArray (List.replicate k vs.toArray)=(acc++(List.replicate k vs).flatten).toArray
  | 0,acc=>by simp
  | k+1,acc=>by
    rw [List.replicate_succ,List.foldl_cons,List.append_toArray,joined_list vs k,List.replicate_succ,List.flatten_cons,List.append_assoc]
theorem mulCore {A:Around} {env:Env} {act:Act} {g g':Gh} {s s':Shared} {st st':St} {a:Addr} {n:Nat} {vs:List Value} {xs:List V} {x:Int} {t:Tok} {Q E:Value→Shared→Prop} (T:Step G cx act env g s st g' s' st')
    (hl:s'.heap.get? a=some (LstO vs n)) (r:Rels G.prog G.w g' vs xs) (hc:0≤x∧x≤lim∧0<xs.length∧xs.length*x.toNat≤lim)
    (h:∀ a g'' s'',NewL G cx act env g s st a (List.replicate x.toNat xs).flatten g'' s'' st'→Q (.ref a) s''):wpAny (model G.prog G.w) A (binaryOp .Mult (.ref a) (.int x t)) Q E s':=by
  have hlen:=r.length
  have hlim:lim=1000000:=rfl
  refine x04 hc ?_;(try clear hc);intro h0 h1 h2 h3
  have hsz:vs.toArray.size*x.toNat≤1000000:=by rw [List.size_toArray,hlen];exact h3
  refine wpAny_binaryOp_repeat_ref (T:="list") (U:="int") (by decide) ⟨_,hl,rfl⟩ (fun s'=>typeIs_int s' x t) noFill_list_mul PySem.F.fills_int_mul PySem.F.slot_int_rmul repeat_list PySem.F.slot_int_index.lookup
      (call_meets PySem.F.slot_int_rmul (typeIs_int _ x t) PySem.F.entry_int_rmul (PySem.F.args_int_rmul_2 _ _) (int___rmul___int_list x t a _ n)
        ⟨hl,rfl,⟨_,hl,rfl⟩,call_meets PySem.F.slot_list_mul ⟨_,hl,rfl⟩ PySem.F.entry_list_mul (PySem.F.args_list_mul_2 _ _)
          (AutoListH.list___mul___list_int_3 a _ n x t (by simp [Builtin.List.listFitsIndex];lia) (by lia) (by simp [Builtin.List.listTooLong,sizeLine] at hsz ⊢;lia))
          ⟨hl,?_⟩⟩)
  have hne:vs.toArray.isEmpty=false:=by
    induction vs using List.casesOn with
    | nil=>simp at hlen;lia
    | cons _ _=>rfl
  rw [hne]
  have e:=joined_list vs x.toNat []
  simp only [List.nil_append] at e
  rw [show (#[]:Array Value)=([]:List Value).toArray from rfl]
  simp only [Bool.false_eq_true,if_false]
  rw [e]
  exact h _ _ _ (NewL.made (n:=0) T (r.flatten x.toNat))
theorem SemL.mul {x y:Expr} {pos:Pos} {a b:EF} (ha:SemE G N cx x a) (hb:SemE G N cx y b):SemL G N cx (.BinOp x .Mult y pos) (lMul a b):=by
  intro A env act g s st l st' Q E O I hf h
  refine bind2 hf ?_;clear hf;intro x st1 e1 hf
  refine bind2 hf ?_;clear hf;intro y st2 e2 hf
  refine wpAny_BinOp (ha O I e1 fun v g1 s1 T1 r1=>hb O T1.inv e2 fun u g2 s2 T2 r2=> ?_)
  induction r1 using Rel.cs with
  | lst eg r=>
    induction r2 using Rel.cs with
    | int x t=>
      simp only at hf
      split at hf
      · rename_i a n vs xs hc
        cases hf using pairE
        have hl:=T2.inv.gh _ _ (T2.gg _ _ eg)
        exact mulCore (T1.trans T2) hl (r.le T2.gg) hc h
      · exact noneE hf
    | _=>exact noneE hf
  | _=>exact noneE hf
theorem SemE.len {e:Expr} {p pos:Pos} {f:EF} (B:Bi G cx "len" (.builtin "len")) (hx:SemE G N cx e f) (he:isStarred e=false):SemE G N cx (.Call (.Name "len" p) [e] [] pos) (eF1 lenV f):=by
  intro A env act g s st d st' Q E O I hf h
  refine bind2 hf ?_;clear hf;intro x st1 e1 hf
  refine bind1 hf ?_;clear hf;intro y e2 hf
  cases hf using pairE
  have hlim:lim=1000000:=rfl
  refine B.call1 O I hx he e1 fun v g1 s1 T r=> ?_
  induction r using Rel.cs with
  | tup eg r=>
    simp only [lenV] at e2
    split at e2
    · rename_i hl
      induction e2 using someE
      have hlen:=r.length
      refine PyProof.Rows.len_tuple (isTup_of (T.inv.gh _ _ eg)) (by rw [List.size_toArray];lia) ?_
      rw [List.size_toArray,hlen]
      exact h _ g1 _ (T.trans (T.inv.stepT _)) (.int _ _)
    · exact noneE e2
  | lst eg r=>
    simp only [lenV] at e2
    split at e2
    · rename_i hl
      induction e2 using someE
      have hlen:=r.length
      refine call_len_list (isLst_of (T.inv.gh _ _ eg)) (by rw [List.size_toArray];lia) ?_
      rw [List.size_toArray,hlen]
      exact h _ g1 _ (T.trans (T.inv.stepT _)) (.int _ _)
    · exact noneE e2
  | bytes hb=>
    subst hb
    simp only [lenV,Array.length_toList] at e2
    split at e2
    · rename_i hl
      induction e2 using someE
      exact len_bytes (by lia) (h _ g1 _ (T.trans (T.inv.stepT _)) (.int _ _))
    · exact noneE e2
  | _=>exact noneE e2
theorem SemE.min {x y:Expr} {p pos:Pos} {f f':EF} (B:Bi G cx "min" (.builtin "min")) (hx:SemE G N cx x f) (hy:SemE G N cx y f') (he:isStarred x=false) (he':isStarred y=false):SemE G N cx (.Call (.Name "min" p) [x,y] [] pos) (eF2 minV f f'):=by
  intro A env act g s st d st' Q E O I hf h
  refine bind2 hf ?_;clear hf;intro x st1 e1 hf
  refine bind2 hf ?_;clear hf;intro y st2 e2 hf
  refine bind1 hf ?_;clear hf;intro z e3 hf
  cases hf using pairE
  refine B.call2 O I hx hy he he' e1 e2 fun v u g1 s1 T r r'=> ?_
  induction r using Rel.cs with
  | int a t=>
    induction r' using Rel.cs with
    | int b t'=>
      induction e3 using someE
      refine min_two_ints O.handled fun h' tk hk=> ?_
      have M:=T.inv.step (s':={ s1 with heap:=h',toks:=tk}) (Ext.keep T.inv.gh hk) rfl rfl
      refine h _ g1 _ (T.trans M) ?_
      split
      · exact .int _ _
      · exact .int _ _
    | _=>exact noneE e3
  | _=>exact noneE e3
theorem SemE.int' {e:Expr} {p pos:Pos} {f:EF} (B:Bi G cx "int" (.type "int")) (hx:SemE G N cx e f) (he:isStarred e=false):SemE G N cx (.Call (.Name "int" p) [e] [] pos) (eF1 intV f):=by
  intro A env act g s st d st' Q E O I hf h
  refine bind2 hf ?_;clear hf;intro x st1 e1 hf
  refine bind1 hf ?_;clear hf;intro y e2 hf
  cases hf using pairE
  refine B.call1T O I hx he e1 fun v g1 s1 T r=> ?_
  induction r using Rel.cs with
  | int a t=>
    induction e2 using someE
    exact call_int_int (h _ g1 _ T (.int _ _))
  | _=>exact noneE e2
theorem SemE.bytes' {e:Expr} {p pos:Pos} {f:EF} (B:Bi G cx "bytes" (.type "bytes")) (hx:SemE G N cx e f) (he:isStarred e=false):SemE G N cx (.Call (.Name "bytes" p) [e] [] pos) (eF1 bytesV f):=by
  intro A env act g s st d st' Q E O I hf h
  refine bind2 hf ?_;clear hf;intro x st1 e1 hf
  refine bind1 hf ?_;clear hf;intro y e2 hf
  cases hf using pairE
  refine B.call1T O I hx he e1 fun v g1 s1 T r=> ?_
  induction r using Rel.cs with
  | lst eg r=>
    simp only [bytesV] at e2
    split at e2
    · rename_i hl
      split at e2
      · rename_i ns e3
        split at e2
        · rename_i hall
          induction e2 using someE
          have hi:=r.ints e3
          have hlen:=r.length
          refine call_bytes_ints (isLst_of (T.inv.gh _ _ eg)) hi (fun n hn=> ?_) (by have:=lim_le;lia) O.handled fun h' t k hk=> ?_
          · have:=List.all_eq_true.mp hall n hn
            simpa using this
          · have M:=T.inv.step (s':={ s1 with heap:=h',toks:=k}) (Ext.keep T.inv.gh hk) rfl rfl
            exact h _ g1 _ (T.trans M) (.bytes (by simp [byteArr]))
        · exact noneE e2
      · exact noneE e2
    · exact noneE e2
  | _=>exact noneE e2
end
end Mine
end
section
open PySem PySem.Calls PyProof.Rows PySem.W
set_option maxRecDepth 10000
namespace Mine
section
variable {G:Top0} {N:Nat} {cx:Cx}
theorem maxL_ok:∀ {ns:List Int} {M k:Int},M∈ns→(∀ a∈ns,a≤M)→maxL ns=some k→k=M:=by
  have key:∀ (r:List Int) (a:Int),(a≤r.foldl (fun m x=>if m<x then x else m) a)∧(∀ x∈r,x≤r.foldl (fun m x=>if m<x then x else m) a)∧(r.foldl (fun m x=>if m<x then x else m) a=a∨r.foldl (fun m x=>if m<x then x else m) a∈r):=by
    intro r
    induction r with
    | nil=>intro a;simp
    | cons x r ih=>
      intro a
      rw [List.foldl_cons]
      refine x03 (ih (if a<x then x else a)) ?_;intro h1 h2 h3
      refine ⟨?_,?_,?_⟩
      · split at h1 <;> rename_i hc <;> simp only [hc,if_true,if_false] at h1 ⊢ <;> lia
      · intro y hy
        rcases List.mem_cons.mp hy with rfl | hy
        · split at h1 <;> rename_i hc <;> simp only [hc,if_true,if_false] at h1 ⊢ <;> lia
        · exact h2 y hy
      · rcases h3 with h3 | h3
        · rw [h3];split
          · exact .inr (List.mem_cons_self ..)
          · exact .inl rfl
        · exact .inr (List.mem_cons_of_mem _ h3)
  intro ns M k hM hub e
  induction ns using List.casesOn with
  | nil=>cases hM
  | cons a r=>
    simp only [maxL,Option.some.injEq] at e
    refine x03 (key r a) ?_;intro h1 h2 h3
    rw [e] at h1 h2 h3
    have hk:k∈a::r:=by
      rcases h3 with h3 | h3
      · rw [h3];exact List.mem_cons_self ..
      · exact List.mem_cons_of_mem _ h3
    have:=hub k hk
    have:M≤k:=by
      rcases List.mem_cons.mp hM with rfl | hM
      · exact h1
      · exact h2 M hM
    lia
theorem SemE.max {e:Expr} {p pos:Pos} {f:EF} (B:Bi G cx "max" (.builtin "max")) (hx:SemE G N cx e f) (he:isStarred e=false):SemE G N cx (.Call (.Name "max" p) [e] [] pos) (eF1 maxV f):=by
  intro A env act g s st d st' Q E O I hf h
  refine bind2 hf ?_;clear hf;intro x st1 e1 hf
  refine bind1 hf ?_;clear hf;intro y e2 hf
  cases hf using pairE
  refine B.call1 O I hx he e1 fun v g1 s1 T r=> ?_
  induction r using Rel.cs with
  | lst eg r=>
    simp only [maxV] at e2
    split at e2
    · rename_i hl
      refine x12 (Option.map_eq_some_iff.mp e2) ?_;intro k e3 hq2;subst hq2
      refine x12 (Option.bind_eq_some_iff.mp e3) ?_;intro ns e4 e5
      have hi:=r.ints e4
      have hne:0<ns.length:=by induction ns using List.casesOn with | nil=>exact noneE e5 | cons _ _=>simp
      refine x11 hi.allInts.items ?_;intro xs e
      have hns:ns=xs.toList.map (·.1):=by
        rw [← hi.numsOf,← nums_intItems,← e]
      have hsz:0<xs.size:=by
        have h3:=hne;rw [hns,List.length_map,Array.length_toList] at h3;exact h3
      have hl:=isLst_of (T.inv.gh _ _ eg)
      rw [e] at hl
      refine max_intList O.handled hl hsz fun v h' tk hv hk=> ?_
      refine x11 (intItems_at hv) ?_;intro t hq1;subst hq1
      refine x02 (argBest_gt (numAt xs) (xs.size - 1)) ?_;intro h1 h2
      have M:=T.inv.step (s':={ s1 with heap:=h',toks:=tk}) (Ext.keep T.inv.gh hk) rfl rfl
      refine h _ g1 _ (T.trans M) ?_
      rw [maxL_ok (M:=numAt xs (argBest (fun i j=>decide (numAt xs i>numAt xs j)) (xs.size - 1))) ?_ ?_ e5]
      · exact .int _ _
      · rw [hns,numAt_eq];exact getD_mem (by rw [List.length_map,Array.length_toList];lia)
      · intro a ha
        rw [hns] at ha
        refine x12 (mem_getD ha) ?_;intro j hj hq2;subst hq2
        rw [List.length_map,Array.length_toList] at hj
        rw [← numAt_eq];exact h2 j (by lia)
    · exact noneE e2
  | _=>exact noneE e2
section
variable {A:Around} {env:Env} {s:Shared} {Q:Value→Shared→Prop} {E:Value→Shared→Prop}
theorem callMeth {o:Expr} {args:List Expr} {name:Str} {apos pos:Pos} {id:String} (hbase:attributeBase o name env (eval o env)=eval o env)
    (hfew:((backTo pos (starEach args env)).all (fun x=> !x.1) && (backToKw pos (keywordEach [] env)).all (fun x=>x.1.isSome)
      && decide (args.length+([]:List Keyword).length+(if ([]:List Keyword).isEmpty then 0 else 1)<30))=true)
    (hline:(apos.endLine==pos.line)=true)
    (h:wpAny (model G.prog G.w) A (eval o env) (fun ov s₁=>(∀ (pl:Sem Bool) (Q':Value×List Value→Shared→Prop),Q' (.builtin id,[ov]) s₁→wpAny (model G.prog G.w) A (getMethod ov name pl) Q' E s₁)∧
      wpAny (model G.prog G.w) A (callWith pos (.builtin id) [ov] (backTo pos (starEach args env)) []) Q E s₁) E s):
    wpAny (model G.prog G.w) A (eval (.Call (.Attribute o name apos) args [] pos) env) Q E s:=by
  rw [arm_eval_Call,hbase]
  refine wpAny_bind (wpAny_mono h (fun ov s₁ h₁=> ?_) fun _ _ e=>e)
  refine x02 h₁ ?_;try clear h₁;intro hget fin
  refine wpAny_bind (wpAny_standAt ?_)
  first
    | (
       have hform:methodCallForm (args.length+([]:List Keyword).length) (backTo pos (starEach args env)) (backToKw pos (keywordEach [] env))=true:=hfew
       have hpos:methodCallPos true o env apos pos=pure pos:=by unfold methodCallPos;simp [hline]
       unfold methodCall
       rw [hform]
       refine wpAny_bind (wpAny_holding (hget _ _ ?_))
       exact wpAny_bind (wpAny_of_eq hpos fin))
    | (
       simp only [hfew,hline,if_true,Bool.not_true,Bool.or_true]
       refine wpAny_bind (wpAny_holding (hget _ _ ?_))
       exact wpAny_bind (wpAny_pure fin))
theorem callMeth1 {o x:Expr} {name:Str} {apos pos:Pos} {id:String} (hbase:attributeBase o name env (eval o env)=eval o env) (hline:(apos.endLine==pos.line)=true) (he:isStarred x=false)
    (h:wpAny (model G.prog G.w) A (eval o env) (fun ov s₁=>(∀ (pl:Sem Bool) (Q':Value×List Value→Shared→Prop),Q' (.builtin id,[ov]) s₁→wpAny (model G.prog G.w) A (getMethod ov name pl) Q' E s₁)∧
      wpAny (model G.prog G.w) A (eval x env) (fun v s₂=>wpAny (model G.prog G.w) A (call (.builtin id) [ov,v]) Q E s₂) E s₁) E s):
    wpAny (model G.prog G.w) A (eval (.Call (.Attribute o name apos) [x] [] pos) env) Q E s:=by
  refine callMeth hbase (by rw [starEach_plain he];rfl) hline (wpAny_mono h (fun ov s₁ h₁=>⟨h₁.1,?_⟩) fun _ _ e=>e)
  rw [show backTo pos (starEach [x] env)=[(false,eval x env)] by rw [starEach_plain he];rfl]
  exact Calls.callWith_builtin rfl (Calls.evalArgs_plain (Calls.spliced_cons (wpAny_mono h₁.2 (fun y s₂ h₂=>Calls.spliced_nil h₂) fun _ _ e=>e)))
end
end
end Mine
end
section
open PySem PySem.Calls PyProof.Rows PySem.W
set_option maxRecDepth 10000
namespace Mine
section
variable {G:Top0} {N:Nat} {cx:Cx}
theorem atI {vs:List Value} {ns:List Int} (h:IntsAre vs ns):∀ {i:Nat} {k:Int},ns[i]? =some k→∃ t,vs[i]? =some (.int k t):=by
  induction h with
  | nil=>intro i k e;induction i using Nat.casesAuxOn <;> exact noneE e
  | cons n t r ih=>
    intro i k e
    induction i using Nat.casesAuxOn with
    | zero=>induction e using someE;exact ⟨t,rfl⟩
    | succ i=>exact ih (by simpa using e)
theorem index_loop {A:Around} {s:Shared} {vs:List Value} {ns:List Int} {k:Int} {t:Tok} {E:Value→Shared→Prop} {Q:Option Fin×Unit→Shared→Prop} (hi:IntsAre vs ns):
    ∀ (m i j:Nat),i+m=ns.length→indexL k (ns.drop i)=some j→
      (∀ tk,Q (some (.done (.ret (.int ((i+j:Nat):Int) tk))),()) { s with toks:=tk+1})→
      wpAny (model G.prog G.w) A (forIn (List.range' i m 1) ((none,()):Option Fin×Unit) fun (i:Nat) __s=>
            match vs.toArray[i]? with
            | some y=>do
              let __do_lift←eqBool y (Value.int k t)
              if __do_lift=true then do
                  let __do_lift←retInt (i:Int)
                  pure (ForInStep.done (some __do_lift,()))
                else pure (ForInStep.yield (none,()))
            | _=>pure (ForInStep.yield (none,()))) Q E s
  | 0,i,j,hm,he,h=>by
    rw [List.drop_eq_nil_of_le (by lia)] at he
    exact noneE he
  | m+1,i,j,hm,he,h=>by
    have hi':i<ns.length:=by lia
    rw [List.drop_eq_getElem_cons hi'] at he
    refine x11 (atI hi (i:=i) (k:=ns[i]) (by simp [hi'])) ?_;intro t' hv
    rw [List.range'_succ,List.forIn_cons]
    have hv':vs.toArray[i]? =some (.int ns[i] t'):=by simpa using hv
    simp only [hv']
    simp only [indexL] at he
    refine wpAny_bind (wpAny_bind (wpAny_eqBool_int ?_))
    by_cases hk:(ns[i]==k)=true
    · rw [if_pos hk] at he
      induction he using someE
      rw [hk]
      refine wpAny_bind (wpAny_bind (wpAny_mkInt ?_))
      refine wpAny_pure (wpAny_pure (wpAny_pure ?_))
      exact h s.toks
    · rw [if_neg hk] at he
      refine x12 (Option.map_eq_some_iff.mp he) ?_;intro j' e hq2;subst hq2
      rw [if_neg hk]
      refine wpAny_pure ?_
      refine index_loop hi m (i+1) j' (by lia) e fun tk=> ?_
      have:=h tk
      rwa [show i+(j'+1)=i+1+j' by lia] at this
theorem tuple_index {A:Around} {s:Shared} {a:Addr} {vs:List Value} {n:Nat} {ns:List Int} {k:Int} {t:Tok} {j:Nat} {Q:Value→Shared→Prop} {E:Value→Shared→Prop} (ho:s.heap.get? a=some (TupO vs n)) (hi:IntsAre vs ns) (he:indexL k ns=some j)
    (h:∀ tk tk',Q (.int j tk) { s with toks:=tk'}):wpAny (model G.prog G.w) A (call (.builtin "tuple.index") [.ref a,.int k t]) Q E s:=by
  have hT:=(isTup_of ho).typeIs
  refine wpAny_call_entry PySem.F.slot_tuple_index hT PySem.F.entry_tuple_index ?_ (PySem.F.args_tuple_index_2 _ _)
  unfold Builtin.«tuple.index»
  show wpAny _ _ (Builtin.Tuple.tupleItemsOf (.ref a) >>= _) _ _ s
  refine wpAny_bind (tupleItemsOf_ (isTup_of ho) ?_)
  simp only [pure_bind,Std.Legacy.Range.forIn_eq_forIn_range']
  have hsz:min vs.toArray.size vs.toArray.size=ns.length:=by rw [List.size_toArray,hi.length];simp
  rw [hsz]
  have:(Std.Legacy.Range.size [:ns.length])=ns.length:=by simp [Std.Legacy.Range.size]
  rw [this]
  refine wpAny_bind (index_loop hi ns.length 0 j (by lia) (by simpa using he) fun tk=> ?_)
  exact wpAny_pure ⟨_,rfl,by rw [Nat.zero_add];exact h _ _⟩
theorem SemE.index {o x:Expr} {apos pos:Pos} {f f':EF} (ho:SemE G N cx o f) (hx:SemE G N cx x f') (he:isStarred x=false) (hbase:∀ env whole,attributeBase o "index" env whole=whole) (hline:(apos.endLine==pos.line)=true):
    SemE G N cx (.Call (.Attribute o "index" apos) [x] [] pos) (eF2 indexV f f'):=by
  intro A env act g s st d st' Q E O I hf h
  refine bind2 hf ?_;clear hf;intro x st1 e1 hf
  refine bind2 hf ?_;clear hf;intro y st2 e2 hf
  refine bind1 hf ?_;clear hf;intro z e3 hf
  cases hf using pairE
  induction x using V.cs with
  | tup l=>
    induction y using V.cs with
    | int k=>
      simp only [indexV] at e3
      split at e3
      · refine x12 (Option.map_eq_some_iff.mp e3) ?_;intro j e4 hj
        refine x12 (Option.bind_eq_some_iff.mp e4) ?_;intro ns e5 e6
        subst hj
        refine callMeth1 (id:="tuple.index") (hbase _ _) hline he (ho O I e1 fun v g1 s1 T1 r1=> ?_)
        cases r1 with
        | tup eg r=>
          have oh:=T1.inv.gh _ _ eg
          refine ⟨fun pl Q' hq=>getMethod_builtin (isTup_of oh).typeIs PySem.F.plainAttrs_tuple PySem.F.slot_tuple_index PySem.F.type_tuple_index (fun b e=>by cases e;exact ⟨_,oh,rfl⟩) hq,?_⟩
          refine hx O T1.inv e2 fun u g2 s2 T2 r2=> ?_
          cases r2
          exact tuple_index (T2.inv.gh _ _ (T2.gg _ _ eg)) (r.ints e5) e6 fun tk tk'=>h _ g2 _ ((T1.trans T2).trans (T2.inv.stepT tk')) (.int _ _)
      · exact noneE e3
    | _=>simp [indexV] at e3
  | _=>induction y using V.cs <;> simp [indexV] at e3
theorem SemE.get {o x y:Expr} {apos pos:Pos} {f f' f'':EF} (ho:SemE G N cx o f) (hx:SemE G N cx x f') (hy:SemE G N cx y f'') (he:isStarred x=false) (he':isStarred y=false)
    (hbase:∀ env whole,attributeBase o "get" env whole=whole) (hline:(apos.endLine==pos.line)=true):
    SemE G N cx (.Call (.Attribute o "get" apos) [x,y] [] pos) (eF3 getV f f' f''):=by
  intro A env act g s st d st' Q E O I hf h
  refine bind2 hf ?_;clear hf;intro x st1 e1 hf
  refine bind2 hf ?_;clear hf;intro y st2 e2 hf
  refine bind2 hf ?_;clear hf;intro z st3 e3 hf
  refine bind1 hf ?_;clear hf;intro w e4 hf
  cases hf using pairE
  induction x using V.cs with
  | dct ks ds=>
    refine callMeth (id:="dict.get") (hbase _ _) (by rw [starEach_plain he,starEach_plain he'];rfl) hline (ho O I e1 fun v g1 s1 T1 r1=> ?_)
    cases r1 with
    | dct D q=>
      rename_i a vs
      obtain ⟨hsys,hlen,es,n,eg,_⟩:=id D
      have oh:=T1.inv.gh _ _ eg
      refine ⟨fun pl Q' hq=>getMethod_builtin (D.map T1.inv.gh).typeIs PySem.F.plainAttrs_dict PySem.F.slot_dict_get PySem.F.type_dict_get (fun b e=>by cases e;exact ⟨_,oh,rfl⟩) hq,?_⟩
      rw [show ∀ p,backTo p (starEach [_,_] env)=[(false,eval _ env),(false,eval _ env)] from fun p=>by rw [starEach_plain he,starEach_plain he'];rfl]
      refine wpAny_dict_get2 (knd:=oik G.prog G.w) hsys (hx O T1.inv e2 fun u g2 s2 T2 r2=>hy O T2.inv e3 fun dv g3 s3 T3 r3=> ?_)
      have hm:=(D.le (T2.gg.trans T3.gg)).map T3.inv.gh
      have T:=(T1.trans T2).trans T3
      have q':=q.le (T2.gg.trans T3.gg)
      induction r2 using Rel.cs with
      | int k t=>
        refine ⟨some k,_,by simp [oik,isOI],hm,?_⟩
        simp only [getV] at e4
        induction e4 using someE
        have hl:=q.length
        rw [zip_at k D.2.1,lookI_at k (D.2.1.trans hl)] at*
        refine h _ g3 _ (T.trans (T3.inv.stepT _)) ?_
        cases e5:List.findIdx? (· ==k) ks with
        | none=>exact r3
        | some j=>
          cases e6:ds[j]? with
          | none=>
            have e7:vs[j]? =Option.none:=by
              rw [List.getElem?_eq_none_iff] at e6 ⊢;lia
            simp only [e7,e6]
            exact r3
          | some dd=>
            refine x12 (q'.get j e6) ?_;intro v e7 r7
            simp only [e7,e6]
            exact r7
      | none=>
        refine ⟨Option.none,_,by simp [oik,isOI],hm,?_⟩
        simp only [getV] at e4
        induction e4 using someE
        rw [none_at]
        exact h _ g3 _ (T.trans (T3.inv.stepT _)) r3
      | _=>simp [getV] at e4
  | _=>simp [getV] at e4
end
end Mine
end
section
open PySem
namespace Mine
theorem extract_one {b:Array UInt8} {c:UInt8} {i:Nat}:(b.extract i (i+1)== #[c])=(b[i]? ==some c):=by
  by_cases h:i<b.size
  · have:b.extract i (i+1)= #[b[i]]:=by
      apply Array.ext
      · simp;lia
      · intro j h1 h2
        have:j=0:=by simp at h2;lia
        subst this
        simp
    rw [this]
    simp only [h,Array.getElem?_eq_getElem]
    by_cases e:b[i]=c
    · simp [e]
    · have h1:(#[b[i]]== #[c])=false:=by
        rw [beq_eq_false_iff_ne];intro q;exact e (by simpa using q)
      have h2:(some b[i]==some c)=false:=by
        rw [beq_eq_false_iff_ne];intro q;exact e (by simpa using q)
      rw [h1,h2]
  · have:b.extract i (i+1)= #[]:=by
      apply Array.eq_empty_of_size_eq_zero;simp;lia
    rw [this]
    have h2:b[i]? =none:=by simp;lia
    rw [h2];rfl
theorem occ_loop (b:Array UInt8) (c:UInt8):∀ k:Nat,∃ m,m≤k∧
    (List.range k).foldl (fun (acc:List Nat×Nat) (i:Nat)=>if (decide (i≥acc.2) && b.extract i (i+(#[c]:Array UInt8).size)== #[c])=true then (i::acc.1,i+(#[c]:Array UInt8).size) else acc) ([],0)=
      (((List.range k).filter fun i=>b[i]? ==some c).reverse,m)
  | 0=>⟨0,Nat.le_refl _,rfl⟩
  | k+1=>by
    refine x12 (occ_loop b c k) ?_;intro m hm e
    rw [List.range_succ,List.foldl_append,e,List.foldl_cons,List.foldl_nil,List.filter_append,List.reverse_append]
    have hs:(#[c]:Array UInt8).size=1:=rfl
    rw [hs,extract_one]
    by_cases h:(b[k]? ==some c)=true
    · refine ⟨k+1,Nat.le_refl _,?_⟩
      rw [if_pos (by simp [h,hm])]
      simp [h]
    · refine ⟨m,by lia,?_⟩
      rw [if_neg (by simp [h])]
      simp [h]
theorem occ_eq (b:Array UInt8) (c:UInt8):Builtin.Bytes.occurrences b #[c] 0 b.size=(List.range b.size).filter fun i=>b[i]? ==some c:=by
  unfold Builtin.Bytes.occurrences
  have:b.size+1 - (0+(#[c]:Array UInt8).size)=b.size:=by show b.size+1 - (0+1)=_;lia
  rw [this]
  have hm:(List.range b.size).map (· +0)=List.range b.size:=by simp
  rw [hm]
  refine x12 (occ_loop b c b.size) ?_;intro m _ e
  have:=congrArg (fun p:List Nat×Nat=>p.1.reverse) e
  simpa using this
theorem count_eq (b:Array UInt8) (c:UInt8):((List.range b.size).filter fun i=>b[i]? ==some c).length=(b.toList.filter (· ==c)).length:=by
  obtain ⟨l⟩:=b
  simp only [List.getElem?_toArray,List.size_toArray]
  induction l with
  | nil=>rfl
  | cons x l ih=>
    rw [List.length_cons,List.range_succ_eq_map,List.filter_cons,List.filter_map,List.filter_cons]
    have:((fun i=>(x::l)[i]? ==some c) ∘ Nat.succ)=fun i=>l[i]? ==some c:=by funext i;simp
    rw [this]
    simp only [List.getElem?_cons_zero]
    by_cases h:(x==c)=true
    · have hx:x=c:=by simpa using h
      subst hx
      simp [ih]
    · have h2:(some x==some c)=false:=by
        rw [beq_eq_false_iff_ne];intro q;induction q using someE;simp at h
      simp only [h2,h,Bool.false_eq_true,if_false,List.length_map]
      exact ih
theorem splitB_ne (c:UInt8):∀ l,splitB c l≠[]
  | []=>by simp [splitB]
  | x::l=>by
    simp only [splitB]
    split
    · simp
    · split <;> simp
noncomputable def betw (b:Array UInt8):List Nat→Nat→List (Array UInt8)
  | [],last=>[b.extract last b.size]
  | p::ps,last=>b.extract last p::betw b ps (p+1)
theorem betw_loop (b:Array UInt8):∀ (places:List Nat) (parts:Array (Array UInt8)) (last:Nat),
    (((places.foldl (fun (x:Array (Array UInt8)×Nat) p=>(x.1.push (b.extract x.2 p),p+1)) (parts,last)).1.push (b.extract (places.foldl (fun (x:Array (Array UInt8)×Nat) p=>(x.1.push (b.extract x.2 p),p+1)) (parts,last)).2 b.size)).toList)=parts.toList++betw b places last
  | [],parts,last=>by simp [betw]
  | p::ps,parts,last=>by
    rw [List.foldl_cons,betw_loop b ps]
    simp [betw]
theorem between_eq (b:Array UInt8) (places:List Nat):Builtin.Bytes.between b 1 places=betw b places 0:=by
  have:=betw_loop b places #[] 0
  simpa [Builtin.Bytes.between] using this
theorem betw_split (c:UInt8) (b:Array UInt8):∀ (l:List UInt8) (i last:Nat),b.toList.drop i=l→last≤i→i≤b.size→
    (betw b ((List.range' i l.length).filter fun j=>b[j]? ==some c) last).map (·.toList)=(match splitB c l with | []=>[] | p::ps=>((b.toList.drop last).take (i - last)++p)::ps)
  | [],i,last,h,hl,hi=>by
    have hlen:b.size≤i:=by
      have:=congrArg List.length h
      simp at this;lia
    have:i=b.size:=by lia
    subst this
    simp [betw,splitB]
  | x::l,i,last,h,hl,hi=>by
    have hlt:i<b.size:=by
      have:=congrArg List.length h
      simp at this;lia
    have hx:b.toList[i]? =some x:=by
      have:(b.toList.drop i)[0]? =some x:=by rw [h];rfl
      simpa using this
    have hx':b[i]? =some x:=by simpa using hx
    have hd:b.toList.drop (i+1)=l:=by
      rw [← List.drop_drop,h];rfl
    rw [List.length_cons,List.range'_succ,List.filter_cons,hx']
    by_cases hc:(x==c)=true
    · have hxc:x=c:=by simpa using hc
      subst hxc
      simp only [beq_self_eq_true,if_true,betw,List.map_cons]
      rw [betw_split x b l (i+1) (i+1) hd (Nat.le_refl _) hlt]
      simp only [splitB,beq_self_eq_true,if_true]
      have he:(b.extract last i).toList=List.take (i - last) (List.drop last b.toList):=by simp
      rw [he]
      cases splitB x l with
      | nil=>simp
      | cons p ps=>simp
    · have h2:(some x==some c)=false:=by
        rw [beq_eq_false_iff_ne];intro q;induction q using someE;simp at hc
      simp only [h2,Bool.false_eq_true,if_false]
      rw [betw_split c b l (i+1) last hd (by lia) hlt]
      simp only [splitB,hc,Bool.false_eq_true,if_false]
      cases hsp:splitB c l with
      | nil=>exact absurd hsp (splitB_ne c l)
      | cons p ps=>
        simp only [List.cons.injEq,and_true]
        have:(List.drop last b.toList).take (i+1 - last)=(List.drop last b.toList).take (i - last)++[x]:=by
          rw [show i+1 - last=(i - last)+1 by lia,List.take_add_one]
          have:(List.drop last b.toList)[i - last]? =some x:=by
            rw [List.getElem?_drop,show last+(i - last)=i by lia];exact hx
          rw [this];rfl
        rw [this];simp
theorem split_eq (b:Array UInt8) (c:UInt8):(Builtin.Bytes.between b 1 (Builtin.Bytes.occurrences b #[c] 0 b.size)).map (·.toList)=splitB c b.toList:=by
  rw [between_eq,occ_eq,List.range_eq_range']
  have:=betw_split c b b.toList 0 0 rfl (Nat.le_refl _) (Nat.zero_le _)
  rw [Array.length_toList] at this
  rw [this]
  cases h:splitB c b.toList with
  | nil=>rfl
  | cons p ps=>simp
theorem split_none (b:Array UInt8) (c:UInt8) (h:(List.range b.size).filter (fun i=>b[i]? ==some c)=[]):splitB c b.toList=[b.toList]:=by
  rw [← split_eq,occ_eq,h,between_eq]
  simp [betw]
end Mine
namespace Mine
theorem joinB_flat (s:List UInt8):∀ (p:List UInt8) (r:List (List UInt8)),joinB s (p::r)=p++(r.map (s++ ·)).flatten
  | p,[]=>by simp [joinB]
  | p,q::r=>by simp [joinB,joinB_flat s q r]
theorem joined_loop (sep:Array UInt8):∀ (l:List (Array UInt8)) (k:Nat) (acc:Array UInt8),
    ((l.zipIdx (k+1)).foldl (fun out (x:Array UInt8×Nat)=>(if x.2>0 then out++sep else out)++x.1) acc).toList=acc.toList++((l.map (·.toList)).map (sep.toList++ ·)).flatten
  | [],k,acc=>by simp
  | p::l,k,acc=>by
    rw [List.zipIdx_cons,List.foldl_cons,joined_loop sep l]
    simp
theorem joined_eq (sep:Array UInt8) (l:List (Array UInt8)):(Builtin.Bytes.joined sep l).toList=joinB sep.toList (l.map (·.toList)):=by
  induction l using List.casesOn with
  | nil=>rfl
  | cons p l=>
    show ((List.zipIdx (p::l) 0).foldl (fun out (x:Array UInt8×Nat)=>(if x.2>0 then out++sep else out)++x.1) #[]).toList=_
    rw [List.zipIdx_cons,List.foldl_cons,joined_loop sep l,List.map_cons,joinB_flat]
    simp
theorem foldl_size (l:List (Array UInt8)):∀ n:Nat,l.foldl (fun x1 x2=>x1+x2.size) n=n+((l.map (·.toList)).map (·.length)).sum:=by
  induction l with
  | nil=>simp
  | cons p l ih=>intro n;rw [List.foldl_cons,ih];simp;lia
theorem joinB_length (s:List UInt8):∀ (p:List UInt8) (r:List (List UInt8)),(joinB s (p::r)).length=s.length*r.length+((p::r).map (·.length)).sum
  | p,[]=>by simp [joinB]
  | p,q::r=>by
    simp only [joinB,List.length_append,joinB_length s q r,List.map_cons,List.sum_cons,List.length_cons,Nat.mul_add,Nat.mul_one]
    lia
end Mine
end
section
open PySem PySem.Calls PyProof.Rows PySem.W PySem.Builtin
namespace Mine
theorem slot_bytes_join:PySem.Slot "bytes" "join" "bytes.join":=
  .of (owner:="bytes") (n:="join") (by rw [typeLookup_type,builtinLookup_eq_fast];kernel_rfl) (by decide +kernel) (by decide +kernel) (by decide +kernel)
    (by first | exact .inl (by decide +kernel) | exact .inr (by decide +kernel)) (by rw [isSubtype_type];kernel_rfl)
theorem type_bytes_join:typeOf (.builtin "bytes.join")=pure (.type "method_descriptor"):=by show builtinType _=_;rw [builtinType_eq_fast];kernel_rfl
theorem entry_bytes_join:entryFor table "bytes.join"=some Builtin.«bytes.join» :=entryFor_of_tree (by kernel_rfl)
theorem args_bytes_join (a b:Value):argsOk "bytes.join" ⟨[a,b],[]⟩:=by
  unfold argsOk;rw [signature?_of (id:="bytes.join") (n:=['n','i','o','j']) (o:=['s','e','t','y','b']) (by kernel_rfl) FB.owner_bytes];kernel_rfl
theorem slot_bytes_split:PySem.Slot "bytes" "split" "bytes.split":=
  .of (owner:="bytes") (n:="split") (by rw [typeLookup_type,builtinLookup_eq_fast];kernel_rfl) (by decide +kernel) (by decide +kernel) (by decide +kernel)
    (by first | exact .inl (by decide +kernel) | exact .inr (by decide +kernel)) (by rw [isSubtype_type];kernel_rfl)
theorem type_bytes_split:typeOf (.builtin "bytes.split")=pure (.type "method_descriptor"):=by show builtinType _=_;rw [builtinType_eq_fast];kernel_rfl
theorem entry_bytes_split:entryFor table "bytes.split"=some Builtin.«bytes.split» :=entryFor_of_tree (by kernel_rfl)
theorem args_bytes_split (a b:Value):argsOk "bytes.split" ⟨[a,b],[]⟩:=by
  unfold argsOk;rw [signature?_of (id:="bytes.split") (n:=['t','i','l','p','s']) (o:=['s','e','t','y','b']) (by kernel_rfl) FB.owner_bytes];kernel_rfl
theorem slot_bytes_count:PySem.Slot "bytes" "count" "bytes.count":=
  .of (owner:="bytes") (n:="count") (by rw [typeLookup_type,builtinLookup_eq_fast];kernel_rfl) (by decide +kernel) (by decide +kernel) (by decide +kernel)
    (by first | exact .inl (by decide +kernel) | exact .inr (by decide +kernel)) (by rw [isSubtype_type];kernel_rfl)
theorem type_bytes_count:typeOf (.builtin "bytes.count")=pure (.type "method_descriptor"):=by show builtinType _=_;rw [builtinType_eq_fast];kernel_rfl
theorem entry_bytes_count:entryFor table "bytes.count"=some Builtin.«bytes.count» :=entryFor_of_tree (by kernel_rfl)
theorem args_bytes_count (a b:Value):argsOk "bytes.count" ⟨[a,b],[]⟩:=by
  unfold argsOk;rw [signature?_of (id:="bytes.count") (n:=['t','n','u','o','c']) (o:=['s','e','t','y','b']) (by kernel_rfl) FB.owner_bytes];kernel_rfl
section
variable {G:Top0} {N:Nat} {cx:Cx} {A:Around} {s:Shared} {b c:Array UInt8} {t u:Tok} {Q:Value→Shared→Prop} {E:Value→Shared→Prop}
theorem payload_eq:Bytes.payload (.bytes b t)=pure b:=rfl
theorem window_eq (n:Nat):Bytes.window n none none=(0,(n:Int)):=by
  unfold Bytes.window
  simp only [Option.getD_none,Prod.mk.injEq]
  refine ⟨by simp,?_⟩
  rw [if_neg (by lia)]
  lia
theorem bytes_count {x:UInt8} (h1:b.size≤1000000) (h:Q (.int (b.toList.filter (· ==x)).length s.toks) { s with toks:=s.toks+1}):wpAny (model G.prog G.w) A (call (.builtin "bytes.count") [.bytes b t,.bytes #[x] u]) Q E s:=by
  refine wpAny_call_entry slot_bytes_count (typeIs_bytes s b t) entry_bytes_count ?_ (args_bytes_count _ _)
  show wpAny _ _ (Bytes.countM .bytes _) _ _ s
  unfold Bytes.countM
  unfold Bytes.searchArgs
  show wpAny _ _ ((Bytes.buffer? "bytes.count" (.bytes #[x] u) >>= _) >>= _) _ _ s
  rw [KBy.buffer_eq]
  simp only [pure_bind,payload_eq,window_eq]
  have hs:((#[x]:Array UInt8).size:Int)=1:=rfl
  rw [← count_eq,← occ_eq] at h
  by_cases hb:b.size=0
  · have:((b.size:Int) - 0<((#[x]:Array UInt8).size:Int)):=by rw [hs,hb];decide
    rw [if_pos this]
    have he:(Bytes.occurrences b #[x] 0 b.size).length=0:=by
      rw [occ_eq,hb];rfl
    rw [he] at h
    exact wpAny_bind (wpAny_mkInt (wpAny_pure ⟨_,rfl,h⟩))
  · have: ¬ ((b.size:Int) - 0<((#[x]:Array UInt8).size:Int)):=by rw [hs];lia
    rw [if_neg this]
    show wpAny _ _ (if (#[x]:Array UInt8).isEmpty=true then _ else _) _ _ s
    rw [if_neg (by simp)]
    exact wpAny_bind (wpAny_mkInt (wpAny_pure ⟨_,rfl,h⟩))
theorem splitB_len (c:UInt8):∀ (l:List UInt8),(splitB c l).length≤l.length+1∧∀ p∈splitB c l,p.length≤l.length
  | []=>by simp [splitB]
  | y::l=>by
    refine x02 (splitB_len c l) ?_;intro h1 h2
    simp only [splitB]
    split
    · refine ⟨by simp;lia,fun p hp=> ?_⟩
      rcases List.mem_cons.mp hp with rfl | hp
      · simp
      · have:=h2 p hp;simp;lia
    · split
      · rename_i e
        exact absurd e (splitB_ne c l)
      · rename_i p ps e
        rw [e] at h1 h2
        refine ⟨by simpa using Nat.le_succ_of_le h1,fun q hq=> ?_⟩
        rcases List.mem_cons.mp hq with rfl | hq
        · have:=h2 p (List.mem_cons_self ..);simpa using this
        · have:=h2 q (List.mem_cons_of_mem _ hq);simp;lia
theorem mapNew {g:Gh} {R:List Value→Shared→Prop} {F:Value→Shared→Prop}:∀ (l:List (Array UInt8)) {s:Shared},(∀ p∈l,p.size≤sizeLine)→
    (∀ vs tk,Rels G.prog G.w g vs (l.map fun p=>V.bytes p.toList)→R vs { s with toks:=tk})→wpAny (model G.prog G.w) A (l.mapM Bytes.Kind.bytes.new) R F s
  | [],s,_,h=>by
    rw [List.mapM_nil]
    exact wpAny_pure (h [] s.toks .nil)
  | p::l,s,hs,h=>by
    rw [List.mapM_cons]
    refine wpAny_bind (wpAny_mkBytes ?_ (hs p (List.mem_cons_self ..)))
    refine wpAny_bind (mapNew (g:=g) l (fun q hq=>hs q (List.mem_cons_of_mem _ hq)) fun vs tk r=> ?_)
    exact wpAny_pure (h _ tk (.cons (.bytes rfl) r))
theorem bytes_split {g:Gh} {x:UInt8} (h1:b.size≤1000000) (h:∀ vs tk,Rels G.prog G.w g vs ((splitB x b.toList).map V.bytes)→Q (.ref s.heap.objs.size) { s with heap:=s.heap.push (LstO vs 0),toks:=tk}):
    wpAny (model G.prog G.w) A (call (.builtin "bytes.split") [.bytes b t,.bytes #[x] u]) Q E s:=by
  have hlim:(1000000:Nat)<sizeLine:=by decide
  refine wpAny_call_entry slot_bytes_split (typeIs_bytes s b t) entry_bytes_split ?_ (args_bytes_split _ _)
  show wpAny _ _ (Bytes.splitM .bytes "split" false _) _ _ s
  unfold Bytes.splitM
  show wpAny _ _ (Bytes.bytesLike "bytes.split" (.bytes #[x] u) >>= _) _ _ s
  rw [KBd.like_eq]
  simp only [pure_bind]
  show wpAny _ _ (if (#[x]:Array UInt8).isEmpty=true then _ else _) _ _ s
  rw [if_neg (by simp)]
  have hlt:((-1:Int)<0):=by decide
  simp only [hlt,if_true,Bool.false_eq_true,if_false]
  have htake:(Bytes.occurrences b #[x] 0 b.size).take (b.size+1)=Bytes.occurrences b #[x] 0 b.size:=by
    refine List.take_of_length_le ?_
    rw [occ_eq]
    have:=List.length_filter_le (fun i=>b[i]? ==some x) (List.range b.size)
    rw [List.length_range] at this
    lia
  rw [htake]
  by_cases he:(Bytes.occurrences b #[x] 0 b.size).isEmpty=true
  · rw [if_pos he]
    have h0:(List.range b.size).filter (fun i=>b[i]? ==some x)=[]:=by rw [← occ_eq];exact List.isEmpty_iff.mp he
    rw [split_none b x h0] at h
    refine wpAny_bind (wpAny_rule ?_)
    refine wpAny_bind (m:=Bytes.Kind.bytes.same (.bytes b t)) (wpAny_of_eq (a:= .bytes b t) rfl ?_)
    refine wpAny_bind (wpAny_newList ?_ (show 1≤sizeLine by decide))
    exact wpAny_pure ⟨_,rfl,h [_] s.toks (.cons (.bytes rfl) .nil)⟩
  · rw [if_neg he]
    have hsp:=split_eq b x
    have hl:=splitB_len x b.toList
    refine wpAny_bind (mapNew (g:=g) (Bytes.between b (#[x]:Array UInt8).size (Bytes.occurrences b #[x] 0 b.size)) (fun p hp=> ?_) fun vs tk r=> ?_)
    · have hm:p.toList∈splitB x b.toList:=by rw [← hsp];exact List.mem_map_of_mem (f:=(·.toList)) hp
      have:=hl.2 _ hm
      simp at this
      lia
    · have e:(Bytes.between b (#[x]:Array UInt8).size (Bytes.occurrences b #[x] 0 b.size)).map (fun p=>V.bytes p.toList)=(splitB x b.toList).map V.bytes:=by
        rw [← hsp,List.map_map];rfl
      rw [e] at r
      refine wpAny_bind (wpAny_newList ?_ ?_)
      · exact wpAny_pure ⟨_,rfl,h vs tk r⟩
      · rw [r.length,List.length_map]
        have:=hl.1
        simp at this
        lia
theorem takeB {id:String}:Bytes.takeBuffer? id (.bytes b t) 0=pure (some (b,none)):=by
  unfold Bytes.takeBuffer?
  rw [KBy.special_eq KBy.look_buffer,KBy.own_buffer]
  have hf:((0:Int)==Bytes.fullReadOnly)=false:=by decide
  rw [hf,KBy.buffer_eq]
  kernel_rfl
theorem takeQ {id:String}:Bytes.takeBufferQuiet? id (.bytes b t) 0=pure (some (b,none)):=by
  unfold Bytes.takeBufferQuiet?
  rw [takeB]
  rfl
theorem forRange {β:Type} {M:Model} {A:Around} {f:Nat→β→Sem (ForInStep β)} {n:Nat} {s:Shared} {Q:β→Shared→Prop} {E:Value→Shared→Prop} (J:Nat→β→Prop)
    (step:∀ i x,i<n→J i x→wpAny M A (f i x) (fun r s'=>s'=s∧∃ y,r= .yield y∧J (i+1) y) E s) {x:β} (h0:J 0 x) (fin:∀ y,J n y→Q y s):wpAny M A (forIn [:n] x f) Q E s:=by
  rw [Std.Legacy.Range.forIn_eq_forIn_range']
  have hn:(Std.Legacy.Range.size [:n])=n:=by simp [Std.Legacy.Range.size]
  rw [hn]
  show wpAny M A (forIn (List.range' 0 n 1) x f) Q E s
  have key:∀ (m i:Nat) (x:β),i+m=n→J i x→wpAny M A (forIn (List.range' i m 1) x f) Q E s:=by
    intro m
    induction m with
    | zero=>
      intro i x e hx
      rw [List.range'_zero,List.forIn_nil]
      have:i=n:=by lia
      subst this
      exact wpAny_pure (fin x hx)
    | succ m ih=>
      intro i x e hx
      rw [List.range'_succ,List.forIn_cons]
      refine wpAny_bind (wpAny_mono (step i x (by lia) hx) (fun r s' hr=> ?_) fun _ _ e=>e)
      obtain ⟨rfl,y,rfl,hy⟩:=hr
      exact ih (i+1) y (by lia) hy
  exact key n 0 x (by lia) h0
theorem bytesOf_get:∀ {ds:List V} {bs:List (List UInt8)},bytesOf ds=some bs→∀ {i:Nat} {d:V},ds[i]? =some d→∃ x,bs[i]? =some x∧d= .bytes x
  | [],bs,h,i,d,e=>by simp at e
  | d0::ds,bs,h,i,d,e=>by
    induction d0 using V.cs with
    | bytes b=>
      simp only [bytesOf] at h
      refine x12 (Option.map_eq_some_iff.mp h) ?_;intro r h1 hq2;subst hq2
      induction i using Nat.casesAuxOn with
      | zero=>induction e using someE;exact ⟨b,rfl,rfl⟩
      | succ i=>exact bytesOf_get h1 (by simpa using e)
    | _=>exact noneE h
theorem bytesOf_len:∀ {ds:List V} {bs:List (List UInt8)},bytesOf ds=some bs→ds.length=bs.length
  | [],bs,h=>by induction h using someE;rfl
  | d0::ds,bs,h=>by
    induction d0 using V.cs with
    | bytes b=>
      simp only [bytesOf] at h
      refine x12 (Option.map_eq_some_iff.mp h) ?_;intro r h1 hq2;subst hq2
      simp [bytesOf_len h1]
    | _=>exact noneE h
noncomputable def isPlainB (x:Value×Option Value):Prop:=(∃ b t,x.1=Value.bytes b t)∧x.2=none
theorem joinLetGo_ok {M:Model} {keep:List Value} {Q:Unit→Shared→Prop}:∀ {taken:List (Value×Option Value)},(∀ x∈taken,isPlainB x)→Q () s→wpAny M A (Bytes.joinLetGo taken keep) Q E s
  | [],_,h=>wpAny_pure h
  | (x,w)::r,hp,h=>by
    refine x02 (hp (x,w) (List.mem_cons_self ..)) ?_;intro _ hw
    have hw:w=none:=hw
    subst hw
    unfold Bytes.joinLetGo
    exact wpAny_bind (wpAny_letGo (joinLetGo_ok (fun y hy=>hp y (List.mem_cons_of_mem _ hy)) h))
noncomputable def JInv (bs:List (List UInt8)) (i:Nat) (x:Array (Array UInt8)×List (Value×Option Value)):Prop:=x.1.toList.map (·.toList)=bs.take i∧∀ y∈x.2,isPlainB y
theorem join_short {b:Array UInt8} {bs:List (List UInt8)} {y:Array (Array UInt8)} (hJ1:y.toList.map (·.toList)=bs) (hl:(joinB b.toList bs).length≤1000000) (hlim:(1000000:Nat)<sizeLine):Bytes.tooLong (Array.foldl (fun x1 x2=>x1+x2.size) (b.size*(y.size - 1)) y)=false:=by
  refine KBy.tooLong_not ?_
  rw [← Array.foldl_toList,foldl_size,hJ1]
  have hs:y.size=bs.length:=by rw [← hJ1];simp
  rw [hs]
  cases hbs:bs with
  | nil=>simp
  | cons p q=>
    rw [hbs,joinB_length] at hl
    simp at hl ⊢
    lia
theorem bytes_join {g:Gh} {a:Addr} {vs:List Value} {ds:List V} {bs:List (List UInt8)} {n:Nat} (ho:s.heap.get? a=some (LstO vs n)) (r:Rels G.prog G.w g vs ds) (hb:bytesOf ds=some bs) (hl:(joinB b.toList bs).length≤1000000)
    (h:∀ v tk,Rel G.prog G.w g v (.bytes (joinB b.toList bs))→Q v { s with toks:=tk}):wpAny (model G.prog G.w) A (call (.builtin "bytes.join") [.bytes b t,.ref a]) Q E s:=by
  have hlim:(1000000:Nat)<sizeLine:=by decide
  refine wpAny_call_entry slot_bytes_join (typeIs_bytes s b t) entry_bytes_join ?_ (args_bytes_join _ _)
  show wpAny _ _ (Bytes.joinM .bytes _) _ _ s
  unfold Bytes.joinM
  show wpAny _ _ (Bytes.joinItems (.ref a) >>= _) _ _ s
  refine wpAny_bind ?_
  unfold Bytes.joinItems
  refine wpAny_bind (wpAny_typeOf (T:="list") ⟨_,ho,rfl⟩ (wpAny_pure ?_))
  refine wpAny_bind (wpAny_seqItems ho rfl ?_)
  have hvl:=r.length
  have hbl:=bytesOf_len hb
  induction vs using List.casesOn with
  | nil=>
    show wpAny _ _ (forIn [:([]:List Value).toArray.size] _ _ >>= _) _ _ s
    refine wpAny_bind (forRange (JInv bs) (fun i x hi=>by simp at hi) ⟨by simp,by simp⟩ fun y hy=> ?_)
    · refine x02 hy ?_;(try clear hy);intro hJ1 hJ2
      have htk:bs.take ([]:List Value).toArray.size=bs:=List.take_of_length_le (by rw [List.size_toArray];lia)
      rw [htk] at hJ1
      try dsimp only
      refine wpAny_bind (wpAny_of_eq payload_eq ?_)
      have hje:=joined_eq b y.1.toList
      rw [hJ1] at hje
      have hsz:(Bytes.joined b y.1.toList).size=(joinB b.toList bs).length:=by rw [← hje];simp
      have hlong:=join_short (b:=b) hJ1 hl hlim
      try dsimp only
      rw [if_neg (by rw [hlong];decide)]
      refine wpAny_bind (wpAny_mkBytes ?_ (by lia))
      refine wpAny_bind (wpAny_holding (wpAny_point ?_))
      refine wpAny_bind (joinLetGo_ok hJ2 ?_)
      exact wpAny_pure ⟨_,rfl,h _ _ (.bytes hje)⟩
  | cons x0 ws=>
    induction ws using List.casesOn with
    | nil=>
      obtain ⟨d,hd⟩:∃ d,ds[0]? =some d:=⟨ds[0]'(by simp at hvl;lia),by simp⟩
      refine x12 (bytesOf_get hb hd) ?_;intro z hz hq2;subst hq2
      refine x12 (r.get 0 hd) ?_;intro v hv hr
      induction hv using someE
      cases hr with
      | bytes hz'=>
        rename_i arr tk
        show wpAny _ _ (typeOf (.bytes arr tk) >>= _) _ _ s
        refine wpAny_bind (wpAny_typeOf (typeIs_bytes s arr tk) ?_)
        try dsimp only
        rw [if_pos (by decide)]
        refine wpAny_bind (wpAny_rule (wpAny_pure ⟨_,rfl,?_⟩))
        have:bs=[z]:=by
          have hl1:bs.length=1:=by simp at hvl;lia
          induction bs using List.casesOn with
          | nil=>simp at hl1
          | cons p q=>
            induction q using List.casesOn with
            | nil=>induction hz using someE;rfl
            | cons _ _=>simp at hl1
        subst this
        exact h _ s.toks (.bytes (by simpa [joinB] using hz'))
    | cons y0 ws=>
      show wpAny _ _ (forIn [:(x0::y0::ws).toArray.size] _ _ >>= _) _ _ s
      refine wpAny_bind (forRange (JInv bs) (fun i x hi hJ=> ?_) ⟨by simp,by simp⟩ fun y hy=> ?_)
      · have hi:i<(x0::y0::ws).length:=by simpa using hi
        obtain ⟨d,hd⟩:∃ d,ds[i]? =some d:=⟨ds[i]'(by lia),by simp⟩
        refine x12 (bytesOf_get hb hd) ?_;intro z hz hq2;subst hq2
        refine x12 (r.get i hd) ?_;intro v hv hr
        cases hr with
        | bytes hz'=>
          rename_i arr tk
          refine x02 hJ ?_;(try clear hJ);intro hJ1 hJ2
          have hgd:(x0::y0::ws).toArray.getD i Value.none= .bytes arr tk:=by
            simp only [Array.getD_eq_getD_getElem?,List.getElem?_toArray,hv,Option.getD_some]
          try dsimp only
          refine wpAny_bind (wpAny_seqItems ho rfl ?_)
          try dsimp only
          rw [hgd]
          have hany:(x.2.any fun y=>y.1.onHeap)=false:=by
            rw [List.any_eq_false]
            intro y hy
            obtain ⟨⟨b',t',e⟩,_⟩:=hJ2 y hy
            rw [e];simp [Value.onHeap]
          rw [if_neg (by rw [hany];decide)]
          refine wpAny_bind (wpAny_holding (wpAny_of_eq takeQ ?_))
          try dsimp only
          refine wpAny_bind (wpAny_seqItems ho rfl ?_)
          try dsimp only
          rw [if_neg (by simp)]
          refine wpAny_pure ⟨rfl,_,rfl,?_,fun y hy=> ?_⟩
          · rw [List.take_add_one,hz,← hJ1,← hz']
            simp
          · rcases List.mem_append.mp hy with hy | hy
            · exact hJ2 y hy
            · cases List.mem_singleton.mp hy;exact ⟨⟨_,_,rfl⟩,rfl⟩
      · refine x02 hy ?_;(try clear hy);intro hJ1 hJ2
        have htk:bs.take (x0::y0::ws).toArray.size=bs:=List.take_of_length_le (by rw [List.size_toArray];lia)
        rw [htk] at hJ1
        try dsimp only
        refine wpAny_bind (wpAny_of_eq payload_eq ?_)
        have hje:=joined_eq b y.1.toList
        rw [hJ1] at hje
        have hsz:(Bytes.joined b y.1.toList).size=(joinB b.toList bs).length:=by rw [← hje];simp
        have hlong:=join_short (b:=b) hJ1 hl hlim
        try dsimp only
        rw [if_neg (by rw [hlong];decide)]
        refine wpAny_bind (wpAny_mkBytes ?_ (by lia))
        refine wpAny_bind (wpAny_holding (wpAny_point ?_))
        refine wpAny_bind (joinLetGo_ok hJ2 ?_)
        exact wpAny_pure ⟨_,rfl,h _ _ (.bytes hje)⟩
end
end Mine
end
section
open PySem PySem.Calls PyProof.Rows PySem.W
set_option maxRecDepth 10000
namespace Mine
section
variable {G:Top0} {N:Nat} {cx:Cx}
theorem arr1 {c:Array UInt8} {x:UInt8} (h:c.toList=[x]):c= #[x]:=by
  apply Array.toList_inj.mp
  rw [h]
theorem getM_bytes {A:Around} {s:Shared} {b:Array UInt8} {t:Tok} {name:Str} {id:String} {pl:Sem Bool} {Q:Value×List Value→Shared→Prop} {E:Value→Shared→Prop} (slot:PySem.Slot "bytes" name id) (ty:typeOf (.builtin id)=pure (.type "method_descriptor"))
    (h:Q (.builtin id,[.bytes b t]) s):wpAny (model G.prog G.w) A (getMethod (.bytes b t) name pl) Q E s:=
  getMethod_builtin (typeIs_bytes s b t) FB.plainAttrs_bytes slot ty KBd.noRef h
theorem SemE.join {o x:Expr} {apos pos:Pos} {f f':EF} (ho:SemE G N cx o f) (hx:SemE G N cx x f') (he:isStarred x=false) (hbase:∀ env whole,attributeBase o "join" env whole=whole) (hline:(apos.endLine==pos.line)=true):
    SemE G N cx (.Call (.Attribute o "join" apos) [x] [] pos) (eF2 joinV f f'):=by
  intro A env act g s st d st' Q E O I hf h
  refine bind2 hf ?_;clear hf;intro x st1 e1 hf
  refine bind2 hf ?_;clear hf;intro y st2 e2 hf
  refine bind1 hf ?_;clear hf;intro z e3 hf
  cases hf using pairE
  have hlim:lim=1000000:=rfl
  refine callMeth1 (id:="bytes.join") (hbase _ _) hline he (ho O I e1 fun v g1 s1 T1 r1=> ?_)
  induction r1 using Rel.cs with
  | bytes hb=>
    subst hb
    refine ⟨fun pl Q' hq=>getM_bytes slot_bytes_join type_bytes_join hq,hx O T1.inv e2 fun u g2 s2 T2 r2=> ?_⟩
    induction r2 using Rel.cs with
    | lst eg r=>
      simp only [joinV] at e3
      split at e3
      · split at e3
        · rename_i bs hbs
          split at e3
          · rename_i hl
            induction e3 using someE
            exact bytes_join (T2.inv.gh _ _ eg) r hbs hl fun v tk hr=>h v g2 _ ((T1.trans T2).trans (T2.inv.stepT tk)) hr
          · exact noneE e3
        · exact noneE e3
      · exact noneE e3
    | _=>simp [joinV] at e3
  | _=>induction y using V.cs <;> simp [joinV] at e3
theorem SemE.count {o x:Expr} {apos pos:Pos} {f f':EF} (ho:SemE G N cx o f) (hx:SemE G N cx x f') (he:isStarred x=false) (hbase:∀ env whole,attributeBase o "count" env whole=whole) (hline:(apos.endLine==pos.line)=true):
    SemE G N cx (.Call (.Attribute o "count" apos) [x] [] pos) (eF2 countV f f'):=by
  intro A env act g s st d st' Q E O I hf h
  refine bind2 hf ?_;clear hf;intro x st1 e1 hf
  refine bind2 hf ?_;clear hf;intro y st2 e2 hf
  refine bind1 hf ?_;clear hf;intro z e3 hf
  cases hf using pairE
  have hlim:lim=1000000:=rfl
  unfold countV at e3
  split at e3
  · rename_i b c
    split at e3
    · rename_i hl
      induction e3 using someE
      refine callMeth1 (id:="bytes.count") (hbase _ _) hline he (ho O I e1 fun v g1 s1 T1 r1=> ?_)
      cases r1 with
      | bytes hb=>
        subst hb
        refine ⟨fun pl Q' hq=>getM_bytes slot_bytes_count type_bytes_count hq,hx O T1.inv e2 fun u g2 s2 T2 r2=> ?_⟩
        cases r2 with
        | bytes hc=>
          have:=arr1 hc
          subst this
          simp only [Array.length_toList] at hl
          exact bytes_count (by lia) (h _ g2 _ ((T1.trans T2).trans (T2.inv.stepT _)) (.int _ _))
    · exact noneE e3
  · exact noneE e3
theorem SemL.split {o x:Expr} {apos pos:Pos} {f f':EF} (ho:SemE G N cx o f) (hx:SemE G N cx x f') (he:isStarred x=false) (hbase:∀ env whole,attributeBase o "split" env whole=whole) (hline:(apos.endLine==pos.line)=true):
    SemL G N cx (.Call (.Attribute o "split" apos) [x] [] pos) (lF2 splitV f f'):=by
  intro A env act g s st d st' Q E O I hf h
  refine bind2 hf ?_;clear hf;intro x st1 e1 hf
  refine bind2 hf ?_;clear hf;intro y st2 e2 hf
  refine bind1 hf ?_;clear hf;intro z e3 hf
  cases hf using pairE
  have hlim:lim=1000000:=rfl
  unfold splitV at e3
  split at e3
  · rename_i b c
    split at e3
    · rename_i hl
      induction e3 using someE
      refine callMeth1 (id:="bytes.split") (hbase _ _) hline he (ho O I e1 fun v g1 s1 T1 r1=> ?_)
      cases r1 with
      | bytes hb=>
        subst hb
        refine ⟨fun pl Q' hq=>getM_bytes slot_bytes_split type_bytes_split hq,hx O T1.inv e2 fun u g2 s2 T2 r2=> ?_⟩
        cases r2 with
        | bytes hc=>
          have:=arr1 hc
          subst this
          simp only [Array.length_toList] at hl
          refine bytes_split (g:=g2) (by lia) fun vs tk r=> ?_
          have X:=NewL.made (n:=0) (T1.trans T2) r
          have M:=X.step.inv.stepT tk
          exact h _ g2 _ ⟨X.step.trans M,X.fresh,X.above,X.at_,X.priv,fun h=>X.mine h,X.notL⟩
    · exact noneE e3
  · exact noneE e3
end
end Mine
end
section
open PySem PySem.Calls PyProof.Rows PySem.W
set_option maxRecDepth 10000
namespace Mine
noncomputable def OTf (fn:List Str) (h:Heap) (dx:Addr) (fs:List Slot) (a:Addr):Prop:=
  a=dx∨∃ (i:Nat) (n:Str) (l:List V),fn[i]? =some n∧fs[i]? =some (.own l)∧h.nsMap dx n=some (.ref a)
structure ObjOk (G:Top0) (act:Act) (fn:List Str) (b:Bool) (g:Gh) (h:Heap) (fs:List Slot):Prop where
  len:fs.length=fn.length
  ns:IsD G b h act.dx
  gd:g act.dx=none
  wd:act.hE.get? act.dx=none∨act.W act.dx
  ref:if b then g act.ax=some (instObj G.cls act.dx) else act.ax=act.dx
  slots:∀ (i:Nat) (n:Str) (sl:Slot),fn[i]? =some n→fs[i]? =some sl→SlotOk G act g h (h.nsMap act.dx n) sl
  apart:∀ (i j:Nat) (n n':Str) (l l':List V),i≠j→fn[i]? =some n→fn[j]? =some n'→fs[i]? =some (.own l)→fs[j]? =some (.own l')→h.nsMap act.dx n≠h.nsMap act.dx n'
structure CxObj (cx:Cx) (pre:List Loc) (fn:List Str) (p:Loc) (b:Bool):Prop where
  pl:cx.places=pre++fn.map Loc.fld
  pre:∀ n,Loc.fld n ∉ pre
  obj:cx.obj=some (p,b)
  pf:∀ n,p≠ .fld n
section
variable {G:Top0} {N:Nat} {cx:Cx} {act act':Act} {env:Env} {g g':Gh} {s s':Shared} {st st':St} {pre:List Loc} {fn:List Str} {p:Loc} {b:Bool} {fs fs':List Slot}
theorem CxObj.lt (C:CxObj cx pre fn p b) {i:Nat} (h:i<pre.length):cx.places[i]? =pre[i]? :=by rw [C.pl,List.getElem?_append_left h]
theorem CxObj.ge (C:CxObj cx pre fn p b) {i:Nat} (h:pre.length≤i):cx.places[i]? =(fn[i - pre.length]?).map Loc.fld:=by rw [C.pl,List.getElem?_append_right h,List.getElem?_map]
theorem CxObj.at (C:CxObj cx pre fn p b) (i:Nat):cx.places[pre.length+i]? =(fn[i]?).map Loc.fld:=by rw [C.ge (by lia),show pre.length+i - pre.length=i by lia]
theorem Inv.toObj (I:Inv G cx act env g s st) (C:CxObj cx pre fn p b):ObjOk G act fn b g s.heap (st.drop pre.length):=by
  obtain ⟨⟨h1,h2,h3,h4⟩,h5,h6,h7⟩:=I.obj p b C.obj
  refine ⟨by rw [List.length_drop,I.len,C.pl];simp,h1,h2,h4,h6,fun i n sl hn hs=> ?_,fun i j n n' l l' hij hn hn' hl hl'=> ?_⟩
  · rw [List.getElem?_drop] at hs
    exact I.slots _ (.fld n) sl (by rw [C.at,hn];rfl) hs
  · rw [List.getElem?_drop] at hl hl'
    exact I.apart _ _ (.fld n) (.fld n') l l' (by lia) (by rw [C.at,hn];rfl) (by rw [C.at,hn'];rfl) hl hl'
noncomputable def Act.into (act:Act) (fn:List Str) (g:Gh) (s:Shared) (fs:List Slot):Act:=⟨g,s.heap,OTf fn s.heap act.dx fs,s.gens,s.os,act.dx,act.ax⟩
theorem ObjOk.into (o:ObjOk G act fn b g s.heap fs):ObjOk G (act.into fn g s fs) fn b g s.heap fs:=by
  refine ⟨o.len,o.ns,o.gd,.inr (.inl rfl),o.ref,fun i n sl hn hs=> ?_,o.apart⟩
  have:=o.slots i n sl hn hs
  induction sl using Slot.casesOn with
  | unset=>trivial
  | val d=>exact this
  | own l=>
    refine x35 this ?_;(try clear this);intro a vs k e1 e2 e3 e4 e5
    exact ⟨a,vs,k,e1,e2,e3,.inr (.inr ⟨i,n,l,hn,hs,e1⟩),e5⟩
theorem ObjOk.ot_lst (o:ObjOk G act fn b g h fs) {a:Addr} (x:OTf fn h act.dx fs a):a=act.dx∨∃ vs n,h.get? a=some (LstO vs n)∧(act.hE.get? a=none∨act.W a):=by
  rcases x with x | ⟨i,n,l,h1,h2,h3⟩
  · exact .inl x
  · refine x35 (o.slots i n _ h1 h2) ?_;intro a' vs k e1 e2 e3 e4 e5
    rw [h3] at e1;cases e1
    exact .inr ⟨vs,k,e2,e4⟩
theorem take_get {st:List Slot} {k i:Nat} {fs:List Slot} (hk:k≤st.length) (h:i<k):(st.take k++fs)[i]? =st[i]? :=by
  rw [List.getElem?_append_left (by rw [List.length_take];lia),List.getElem?_take,if_pos h]
theorem take_get' {st:List Slot} {k i:Nat} {fs:List Slot} (hk:k≤st.length) (h:k≤i):(st.take k++fs)[i]? =fs[i - k]? :=by
  rw [List.getElem?_append_right (by rw [List.length_take];lia),List.length_take,Nat.min_eq_left hk]
theorem Inv.back (I:Inv G cx act env g s st) (C:CxObj cx pre fn p b) (hp:p ∉ cx.places) (X:ExtW (OTf fn s.heap act.dx (st.drop pre.length)) g s.heap g' s'.heap) (hg:s'.gens=s.gens) (hos:s'.os=s.os)
    (ob:ObjOk G (act.into fn g s (st.drop pre.length)) fn b g' s'.heap fs'):Step G cx act env g s st g' s' (st.take pre.length++fs')∧
      ∀ a,Touch cx act env s' (st.take pre.length++fs') a→(∃ o,s.heap.get? a=some o)∨OTf fn s'.heap act.dx fs' a:=by
  obtain ⟨⟨h1,h2,h3,h4⟩,h5,h6,h7⟩:=I.obj p b C.obj
  have o0:=I.toObj C
  have hlen:pre.length≤st.length:=by rw [I.len,C.pl];simp
  have hW:∀ a,OTf fn s.heap act.dx (st.drop pre.length) a→act.W a∨act.hE.get? a=none:=fun a ha=>by
    rcases o0.ot_lst ha with rfl | ⟨vs,n,_,x⟩
    · exact h4.symm
    · exact x.symm
  have hot:∀ a,OTf fn s.heap act.dx (st.drop pre.length) a→Touch cx act env s st a:=fun a ha=>by
    rcases ha with rfl | ⟨i,n,l,e1,e2,e3⟩
    · exact .inl ⟨by rw [C.obj];rfl,rfl⟩
    · rw [List.getElem?_drop] at e2
      exact .inr ⟨_,.fld n,l,by rw [C.at,e1];rfl,e2,e3⟩
  have nL: ¬ OTf fn s.heap act.dx (st.drop pre.length) env.locals:=fun ha=>by
    rcases o0.ot_lst ha with e | ⟨vs,n,e,_⟩
    · exact h3 e.symm
    · exact ns_ne_lst I.locN e rfl
  have nC:∀ c v,s.heap.IsCell c v→ ¬ OTf fn s.heap act.dx (st.drop pre.length) c:=fun c v hc ha=>by
    rcases o0.ot_lst ha with e | ⟨vs,n,e,_⟩
    · exact cell_ne_ns hc h1.1 e
    · exact cell_ne_lst hc e rfl
  have kC:∀ c v,s.heap.IsCell c v→s'.heap.IsCell c v:=fun c v hc=>let ⟨o,e,d⟩:=id hc;⟨o,X.hh _ _ e (nC c v hc),d⟩
  have kL:=nsMap_keep I.locN fun o e=>X.hh _ o e nL
  have hf:∀ q,(∀ n,q≠Loc.fld n)→(q∈cx.places∨∃ b,cx.obj=some (q,b))→fetch s'.heap env act.dx q=fetch s.heap env act.dx q:=fun q hq hm=>by
    cases q with
    | loc n=>exact congrFun kL.2 n
    | fld n=>exact absurd rfl (hq n)
    | cell n=>
      show (match env.cells.lookup n with | some c=>cellVal s'.heap c | none=>none)=(match env.cells.lookup n with | some c=>cellVal s.heap c | none=>none)
      cases e:env.cells.lookup n with
      | none=>rfl
      | some c=>
        refine x11 (I.cellsLt hm e) ?_;intro v hc
        exact (cellVal_of (kC c v hc)).trans (cellVal_of hc).symm
  have hpre:∀ {i:Nat} {q:Loc},i<pre.length→cx.places[i]? =some q→∀ n,q≠ .fld n:=fun {i q} hi hq n e=>by
    rw [C.lt hi] at hq
    exact C.pre n (e ▸ List.mem_of_getElem? hq)
  have nO:∀ {i:Nat} {q:Loc} {l:List V} {a:Addr},i<pre.length→cx.places[i]? =some q→st[i]? =some (.own l)→fetch s.heap env act.dx q=some (.ref a)→ ¬ OTf fn s.heap act.dx (st.drop pre.length) a:=fun {i q l a} hi hq hl hfa ha=>by
    rcases ha with rfl | ⟨j,n,l',e1,e2,e3⟩
    · refine x33 (I.slots i q _ hq hl) ?_;intro a' vs k y1 y2 _
      rw [hfa] at y1;cases y1
      exact ns_ne_lst h1.1 y2 rfl
    · rw [List.getElem?_drop] at e2
      exact I.apart i (pre.length+j) q (.fld n) l l' (by lia) hq (by rw [C.at,e1];rfl) hl e2 (hfa.trans e3.symm)
  have inA:∀ a,(act.into fn g s (st.drop pre.length)).hE.get? a=none∨(act.into fn g s (st.drop pre.length)).W a→act.hE.get? a=none∨act.W a:=fun a ha=>by
    rcases ha with ha | ha
    · exact .inl (I.ext.alive a ha)
    · exact (hW a ha).symm
  refine ⟨⟨⟨hg.trans I.gens,hos.trans I.os,I.base,I.ext.then X hW,I.locL,?_,kL.1,?_,fun n hn=> ?_,fun i q sl hq hs=> ?_,fun i j q q' l l' hij hq hq' hl hl'=> ?_,fun q b' hq=> ?_,I.nofld,I.ownC⟩,X.wide hot,fun a ha=> ?_⟩,fun a ha=> ?_⟩
  · refine x11 I.locLive ?_;intro o e
    exact X.priv _ o e I.locG nL
  · rw [List.length_append,List.length_take,Nat.min_eq_left hlen,ob.len,C.pl];simp
  · refine x23 (I.cell n hn) ?_;intro c v e1 e2 e3
    exact ⟨c,v,e1,kC c v e2,let ⟨o,e,_⟩:=id e2;X.priv c o e e3 (nC c v e2)⟩
  · by_cases hi:i<pre.length
    · rw [take_get hlen hi] at hs
      rw [hf q (hpre hi hq) (.inl (List.mem_of_getElem? hq))]
      have:=I.slots i q sl hq hs
      induction sl using Slot.casesOn with
      | unset=>trivial
      | val d=>refine x12 this ?_;(try clear this);intro v e r;exact ⟨v,e,r.le X.gg⟩
      | own l=>
        refine x35 this ?_;(try clear this);intro a vs k y1 y2 y3 y4 y5
        have no:=nO hi hq hs y1
        exact ⟨a,vs,k,y1,X.hh _ _ y2 no,X.priv _ _ y2 y3 no,y4,y5.le X.gg⟩
    · have hi:pre.length≤i:=by lia
      rw [take_get' hlen hi] at hs
      rw [C.ge hi] at hq
      refine x12 (Option.map_eq_some_iff.mp hq) ?_;intro n hn hq2;subst hq2
      have:=ob.slots _ n sl hn hs
      induction sl using Slot.casesOn with
      | unset=>trivial
      | val d=>exact this
      | own l=>
        refine x35 this ?_;(try clear this);intro a vs k y1 y2 y3 y4 y5
        exact ⟨a,vs,k,y1,y2,y3,inA a y4,y5⟩
  · have key:∀ (i j:Nat) (q q':Loc) (l l':List V),i<pre.length→pre.length≤j→cx.places[i]? =some q→cx.places[j]? =some q'→(st.take pre.length++fs')[i]? =some (.own l)→(st.take pre.length++fs')[j]? =some (.own l')→fetch s'.heap env act.dx q≠fetch s'.heap env act.dx q':=by
      intro i j q q' l l' hi hj hq hq' hl hl' e
      rw [take_get hlen hi] at hl
      rw [take_get' hlen hj] at hl'
      rw [hf q (hpre hi hq) (.inl (List.mem_of_getElem? hq))] at e
      rw [C.ge hj] at hq'
      refine x12 (Option.map_eq_some_iff.mp hq') ?_;intro n hn hq2;subst hq2
      refine x35 (I.slots i q _ hq hl) ?_;intro a vs k y1 y2 y3 y4 y5
      refine x35 (ob.slots _ n _ hn hl') ?_;intro a' vs' k' z1 z2 z3 z4 z5
      have z1:fetch s'.heap env act.dx (.fld n)=some (.ref a'):=z1
      rw [y1,z1] at e
      cases e
      rcases z4 with z4 | z4
      · have z4:s.heap.get? a=none:=z4
        rw [y2] at z4;exact noneE' z4
      · exact nO hi hq hl y1 z4
    by_cases hi:i<pre.length
    · by_cases hj:j<pre.length
      · rw [take_get hlen hi] at hl
        rw [take_get hlen hj] at hl'
        rw [hf q (hpre hi hq) (.inl (List.mem_of_getElem? hq)),hf q' (hpre hj hq') (.inl (List.mem_of_getElem? hq'))]
        exact I.apart i j q q' l l' hij hq hq' hl hl'
      · exact key i j q q' l l' hi (by lia) hq hq' hl hl'
    · by_cases hj:j<pre.length
      · exact fun e=>key j i q' q l' l hj (by lia) hq' hq hl' hl e.symm
      · have hi:pre.length≤i:=by lia
        have hj:pre.length≤j:=by lia
        rw [take_get' hlen hi] at hl
        rw [take_get' hlen hj] at hl'
        rw [C.ge hi] at hq
        rw [C.ge hj] at hq'
        refine x12 (Option.map_eq_some_iff.mp hq) ?_;intro n hn hq2;subst hq2
        refine x12 (Option.map_eq_some_iff.mp hq') ?_;intro n' hn' hq2;subst hq2
        exact ob.apart _ _ n n' l l' (by lia) hn hn' hl hl'
  · have:q=p∧b'=b:=by rw [C.obj] at hq;induction hq using pairE;exact ⟨rfl,rfl⟩
    refine x02 this ?_;(try clear this);intro hq0 hq1;subst hq0;subst hq1
    refine ⟨⟨ob.ns,ob.gd,h3,h4⟩,(hf q C.pf (.inr ⟨b',hq⟩)).trans h5,?_,fun n hn=> ?_⟩
    · induction b' using Bool.casesOn
      · exact h6
      · exact X.gg _ _ h6
    · refine x23 (h7 n hn) ?_;intro c v e1 e2 e3
      exact ⟨c,v,e1,kC c v e2,let ⟨o,e,_⟩:=id e2;X.priv c o e e3 (nC c v e2)⟩
  · rcases ha with ⟨hh,rfl⟩ | ⟨i,q,l,hq,hl,hfe⟩
    · exact .inl (.inl ⟨hh,rfl⟩)
    · by_cases hi:i<pre.length
      · rw [take_get hlen hi] at hl
        rw [hf q (hpre hi hq) (.inl (List.mem_of_getElem? hq))] at hfe
        exact .inl (.inr ⟨i,q,l,hq,hl,hfe⟩)
      · have hi:pre.length≤i:=by lia
        rw [take_get' hlen hi] at hl
        rw [C.ge hi] at hq
        refine x12 (Option.map_eq_some_iff.mp hq) ?_;intro n hn hq2;subst hq2
        refine x35 (ob.slots _ n _ hn hl) ?_;intro a' vs' k' z1 z2 z3 z4 z5
        have z1:fetch s'.heap env act.dx (.fld n)=some (.ref a'):=z1
        rw [hfe] at z1;cases z1
        rcases z4 with z4 | z4
        · exact .inr z4
        · exact .inl (hot a z4)
  · rcases ha with ⟨hh,rfl⟩ | ⟨i,q,l,hq,hl,hfe⟩
    · exact .inr (.inl rfl)
    · by_cases hi:i<pre.length
      · rw [take_get hlen hi] at hl
        rw [hf q (hpre hi hq) (.inl (List.mem_of_getElem? hq))] at hfe
        exact .inl (Touch.live I (.inr ⟨i,q,l,hq,hl,hfe⟩))
      · have hi:pre.length≤i:=by lia
        rw [take_get' hlen hi] at hl
        rw [C.ge hi] at hq
        refine x12 (Option.map_eq_some_iff.mp hq) ?_;intro n hn hq2;subst hq2
        exact .inr (.inr ⟨_,n,l,hn,hl,hfe⟩)
end
end Mine
end
section
open PySem PySem.Calls PyProof.Rows PySem.W
set_option maxRecDepth 10000
namespace Mine
section
variable {G:Top0} {N:Nat} {cx:Cx}
theorem lookIn_ns {h:Heap} {a:Addr} {o:Obj} {n:Str} (ho:h.get? a=some o) (x:h.isNs a=true):lookIn n o=some (h.nsMap a n):=by
  unfold Heap.isNs at x
  unfold Heap.nsMap lookIn
  rw [ho] at x ⊢
  dsimp only at x ⊢
  cases hd:o.data with
  | dict es ep=>
    rw [hd] at x
    dsimp only at x ⊢
    unfold nsFind findBy
    rw [← Array.find?_toList]
    cases hf:es.toList.find? (fun e=>e.key.isStr n) with
    | some e=>rfl
    | none=>
      dsimp only
      rw [if_neg]
      · rfl
      · rw [Bool.not_eq_true,List.any_eq_false]
        intro e he
        rw [Array.all_eq_true_iff_forall_mem] at x
        have:=x e (Array.mem_toList_iff.mp he)
        revert this
        unfold DictEntry.refKey
        cases e.key <;> simp
  | _=>rw [hd] at x;exact ftE x
structure InstK (K:Frag) (C:Addr):Prop where
  hga:findIn K (.ref C) "__getattribute__"=some (some (.builtin "object.__getattribute__"))
  hgt:findIn K (.ref C) "__getattr__"=some none
  hsa:findIn K (.ref C) "__setattr__"=some (some (.builtin "object.__setattr__"))
  hp:plainOver K C=true
  hh:hasDictIn K C=true
  fld:∀ n∈instNames,findIn K (.ref C) n=some none
theorem handed_rel {g:Gh} {v:Value} {d:V} (r:Rel G.prog G.w g v d):handedIn v=true:=by induction r using Rel.cs <;> rfl
section
variable {A:Around} {s:Shared} {act:Act} {env:Env} {g:Gh} {st:St} {K:Frag} {p:Loc} {name:Str} {v:Value} {E:Value→Shared→Prop}
theorem Inv.instAt (I:Inv G cx act env g s st) (ho:cx.obj=some (p,true)):∃ od,s.heap.get? act.dx=some od∧InstAt s.heap act.ax (instObj G.cls act.dx) G.cls (some od):=by
  obtain ⟨⟨h1,h2,h3,h4⟩,h5,h6,h7⟩:=I.obj p true ho
  refine x32 (ns_dict h1.1) ?_;intro o es k e d
  exact ⟨o,e,⟨I.gh _ _ h6,rfl,rfl,e⟩⟩
theorem Inv.getAttr (I:Inv G cx act env g s st) (ho:cx.obj=some (p,true)) (X:K.In s.heap) (C:InstK K G.cls) (hn:name∈instNames) (hv:s.heap.nsMap act.dx name=some v) (hh:handedIn v=true) {expr:Bool} {Q:Value→Shared→Prop}
    (h:Q v { s with toks:=s.toks+1}):wpAny (model G.prog G.w) A (PySem.getAttr (.ref act.ax) name expr) Q E s:=by
  refine x12 (I.instAt ho) ?_;intro od e J
  have hl:lookIn name od=some (some v):=by rw [lookIn_ns e (I.obj p true ho).1.1.1,hv]
  exact get_value X J C.hga (findObj_own C.hh (C.fld name hn) rfl hl) hh h
theorem Inv.getMeth (I:Inv G cx act env g s st) (ho:cx.obj=some (p,true)) (X:K.In s.heap) (C:InstK K G.cls) {f:Addr} (hn:name ∉ instNames) (hf:findIn K (.ref G.cls) name=some (some (.ref f))) (ht:typeIn K (.ref f)=some (.type "function")) {pl:Sem Bool}
    {Q:Value×List Value→Shared→Prop} (h:Q (.ref f,[.ref act.ax]) s):wpAny (model G.prog G.w) A (getMethod (.ref act.ax) name pl) Q E s:=by
  refine x12 (I.instAt ho) ?_;intro od e J
  have hd:=(I.obj p true ho).1.1
  have hl:lookIn name od=some none:=by rw [lookIn_ns e hd.1,(hd.2.2 rfl).2 name hn]
  exact method_fn X J C.hga C.hgt hf ht (by show (lookIn name od).map _=_;rw [hl];rfl) h
theorem nodup_le {α:Type} [DecidableEq α]:∀ {l r:List α},l.Nodup→(∀ x∈l,x∈r)→l.length≤r.length
  | [],r,_,_=>Nat.zero_le _
  | x::l,r,hn,hs=>by
    refine x02 (List.nodup_cons.mp hn) ?_;intro h1 h2
    have hx:=hs x (List.mem_cons_self ..)
    have:=nodup_le (l:=l) (r:=r.erase x) h2 fun y hy=>by
      have hne:y≠x:=by rintro rfl;exact h1 hy
      exact (List.mem_erase_of_ne hne).mpr (hs y (List.mem_cons_of_mem _ hy))
    rw [List.length_erase_of_mem hx] at this
    have:0<r.length:=List.length_pos_of_mem hx
    simp only [List.length_cons]
    lia
noncomputable def keyName (e:DictEntry):Str:=match e.key with | .str n _=>n | _=> .empty
theorem ns1_size {h:Heap} {a:Addr} {m:Str→Option Value} {names:List Str} (x:h.Ns1 a m) (hm:∀ n,n ∉ names→m n=none):∃ o es ep,h.get? a=some o∧o.data= .dict es ep∧es.size≤names.length:=by
  refine x35 x ?_;(try clear x);intro o es ep e d k u f
  refine ⟨o,es,ep,e,d,?_⟩
  have hk:∀ x∈es.toList,∃ t,x.key= .str (keyName x) t:=fun x hx=>by
    refine x21 (k x (Array.mem_toList_iff.mp hx)) ?_;intro n t hk
    exact ⟨t,by unfold keyName;rw [hk]⟩
  have h1:(es.toList.map keyName).Nodup:=by
    unfold List.Nodup
    rw [List.pairwise_map]
    refine u.imp_of_mem fun {x y} hx hy hxy e=> ?_
    refine x11 (hk x hx) ?_;intro t h1
    refine x11 (hk y hy) ?_;intro t' h2
    exact hxy (keyName x) (by rw [h1];simp [Value.isStr]) (by rw [h2,e];simp [Value.isStr])
  have h2:∀ n∈es.toList.map keyName,n∈names:=fun n hn=>by
    refine x12 (List.mem_map.mp hn) ?_;intro x hx hq2;subst hq2
    apply Decidable.byContradiction
    intro hc
    have hmn:=hm _ hc
    rw [← f] at hmn
    simp only [nsFind,findBy,Option.map_eq_none_iff,Array.find?_eq_none] at hmn
    refine x11 (hk x hx) ?_;intro t h1
    have:=hmn x (Array.mem_toList_iff.mp hx)
    rw [h1] at this
    simp [Value.isStr] at this
  have:=nodup_le h1 h2
  simpa using this
theorem Inv.setAttr (I:Inv G cx act env g s st) (ho:cx.obj=some (p,true)) (X:K.In s.heap) (C:InstK K G.cls) (hn:name∈instNames) {Q:Unit→Shared→Prop}
    (h:∀ h' tk,IsD G true h' act.dx→h'.nsMap act.dx=(fun x=>if x=name then some v else s.heap.nsMap act.dx x)→Heap.SameBut act.dx s.heap h'→(∃ o,h'.get? act.dx=some o)→Q () { s with heap:=h',toks:=tk}):
    wpAny (model G.prog G.w) A (PySem.setAttr (.ref act.ax) name v) Q E s:=by
  refine x12 (I.instAt ho) ?_;intro od e J
  have hd:=(I.obj p true ho).1.1
  obtain ⟨⟨m,hns⟩,hno⟩:=hd.2.2 rfl
  have hm:=(nsMap_of hns.ns).2
  refine set_plain X J C.hsa (osa_open (s:={ s with toks:=s.toks+1}) X J C.hp (r:=none) ?_ fun b=> ?_)
  · unfold takerIn
    rw [C.fld name hn];rfl
  · refine x12 (any_some C.hh) ?_;intro cd hc hd'
    refine wpAny_bind (wpAny_pure (wpAny_bind (wpAny_bind (wpAny_loadPart (s:={ s with toks:=s.toks+1}) J.at_ (wpAny_bind ((looks_clsIn X hc) _ _ _ { s with toks:=s.toks+1} (fun _ _ e=>e) ?_))))))
    rw [hd']
    refine wpAny_pure (a:=some act.dx) (wpAny_bind (wpAny_pure (wpAny_bind ?_)))
    refine wpAny_nsSet1 (s:={ s with toks:=s.toks+1}) hns fun h' hn' hs'=> ?_
    have hm':=(nsMap_of hn'.ns).2
    have hno':∀ n,n ∉ instNames→(fun x=>if x=name then some v else m x) n=none:=fun n hnn=>by
      have:n≠name:=by rintro rfl;exact hnn hn
      show (if n=name then some v else m n)=none
      rw [if_neg this,← hm];exact hno n hnn
    refine x33 (ns1_size hn' hno') ?_;intro o es ep e1 e2 e3
    refine wpAny_bind (wpAny_lookBehind e1 (by rw [e2];exact pastItsLine_dict (Nat.le_trans e3 (by decide))) ?_)
    refine wpAny_pure ?_
    refine h h' _ ⟨(nsMap_of hn'.ns).1,(fun hb=>by exact tfE hb),fun _=>⟨⟨_,hn'⟩,fun n hnn=>by rw [hm'];exact hno' n hnn⟩⟩ (by rw [hm',hm]) hs' ⟨o,e1⟩
end
end
end Mine
end
section
open PySem PySem.Calls PyProof.Rows PySem.W
set_option maxRecDepth 10000
namespace Mine
section
variable {G:Top0} {N:Nat} {cx:Cx}
section
variable {A:Around} {s:Shared} {act:Act} {env:Env} {g:Gh} {st:St} {p:Loc} {b:Bool} {name:Str} {v:Value} {i:Nat} {sl:Slot}
theorem Inv.storeFld (I:Inv G cx act env g s st) (O:Ok N cx A env) (ho:cx.obj=some (p,b)) (hpf:∀ n,p≠ .fld n) (hp:cx.places[i]? =some (.fld name)) {h':Heap} (hD:IsD G b h' act.dx)
    (hm:h'.nsMap act.dx=fun x=>if x=name then some v else s.heap.nsMap act.dx x) (hs:Heap.SameBut act.dx s.heap h') (hl:∃ o,h'.get? act.dx=some o) (t:Nat)
    (hsl:∀ h',KeepL s.heap h'→SlotOk G act g h' (some v) sl) (hown:∀ l,sl= .own l→∀ (j:Nat) (q:Loc) (l':List V),j≠i→cx.places[j]? =some q→st[j]? =some (.own l')→fetch s.heap env act.dx q≠some v):
    Stored G cx act env g s st v sl { s with heap:=h',toks:=t} (st.set i sl):=by
  obtain ⟨⟨h1,h2,h3,h4⟩,h5,h6,h7⟩:=I.obj p b ho
  have hf:fetch h' env act.dx (.fld name)=some v:=by
    show h'.nsMap act.dx name=some v
    rw [hm];exact if_pos rfl
  have hq:∀ q,q≠Loc.fld name→(q∈cx.places∨∃ b,cx.obj=some (q,b))→fetch h' env act.dx q=fetch s.heap env act.dx q:=by
    intro q hq hm'
    cases q with
    | loc m=>exact congrFun (nsMap_keep I.locN fun o e=>(hs.2 _ (Ne.symm h3)).trans e).2 m
    | cell m=>
      show (match env.cells.lookup m with | some c=>cellVal h' c | none=>none)=(match env.cells.lookup m with | some c=>cellVal s.heap c | none=>none)
      cases e:env.cells.lookup m with
      | none=>rfl
      | some k=>
        refine x11 (I.cellsLt hm' e) ?_;intro v' hc
        show cellVal h' k=cellVal s.heap k
        unfold cellVal;rw [hs.2 k (cell_ne_ns hc h1.1)]
    | fld m=>
      show h'.nsMap act.dx m=s.heap.nsMap act.dx m
      rw [hm];exact if_neg fun e=>hq (by rw [e])
  refine ⟨?_,fun a vs n e=>(hs.2 a (ns_ne_lst h1.1 e).symm).trans e,fun d S hw=>S.put O.nodup _ hp hs (fun e=>S.nt (.inl ⟨by rw [ho];rfl,e⟩)) hf hq hw⟩
  refine I.put (c:=act.dx) O.nodup t hp hs h2 h4 hl hf hq (nsMap_keep I.locN fun o e=>(hs.2 _ (Ne.symm h3)).trans e).1 (fun m k v' hm' e q=>⟨v',q.sameBut hs (cell_ne_ns q h1.1)⟩) (fun q b' ho' _=> ?_)
    (fun a vs n e=>(ns_ne_lst h1.1 e).symm) (fun b' ho'=> ?_) (hsl h' fun a vs n e=>(hs.2 a (ns_ne_lst h1.1 e).symm).trans e) hown
  · rw [ho] at ho';induction ho' using pairE;exact hD
  · rw [ho] at ho';cases ho';exact hpf _ rfl
end
noncomputable def SemObj (G:Top0) (N:Nat) (cx:Cx) (e:Expr):Prop:=∀ ⦃A env act g s st⦄ ⦃Q E:Value→Shared→Prop⦄,Ok N cx A env→Inv G cx act env g s st→Q (.ref act.ax) s→wpAny (model G.prog G.w) A (eval e env) Q E s
theorem SemObj.loc {n:Str} {pos:Pos} {b:Bool} (ho:cx.obj=some (.loc n,b)) (hk:cx.sc.names.lookup n=some .local) (hd:(n==("__debug__":Str))=false):SemObj G N cx (.Name n pos):=by
  intro A env act g s st Q E O I h
  exact wpAny_Name (wp_loadName_fetch O I hk (I.obj _ b ho).2.1 h) hd
theorem SemObj.cell {n:Str} {pos:Pos} {b:Bool} (ho:cx.obj=some (.cell n,b)) (hk:cx.sc.names.lookup n=some .cell) (hd:(n==("__debug__":Str))=false):SemObj G N cx (.Name n pos):=by
  intro A env act g s st Q E O I h
  refine x23 ((I.obj _ b ho).2.2.2 n rfl) ?_;intro c v e1 e2 _
  have e:(match env.cells.lookup n with | some c=>cellVal s.heap c | none=>none)=some (.ref act.ax):=(I.obj _ b ho).2.1
  rw [e1] at e
  have e:cellVal s.heap c=some (.ref act.ax):=e
  rw [cellVal_of e2] at e
  subst e
  exact wpAny_Name (wpAny_loadName_cell (by rw [O.sc];exact O.kind) (by unfold Env.kindOf;rw [O.sc];exact hk) e1 e2 h) hd
theorem SemQ.sem {e:Expr} {f:EF} (h:SemQ G N cx e f):SemE G N cx e f:=by
  intro A env act g s st d st' Q E O I hf k
  exact h O I hf fun v g' s' T _ r=>k v g' s' T r
theorem getAttr_expr {A:Around} {env:Env} {s:Shared} {o:Str} {op:Pos} {name:Str} {pos:Pos} {Q E:Value→Shared→Prop} (h:wpAny (model G.prog G.w) A (eval (.Name o op) env) (fun v s₁=>wpAny (model G.prog G.w) A (getAttr v name true) Q E s₁) E s):
    wpAny (model G.prog G.w) A (eval (.Attribute (.Name o op) name pos) env) Q E s:=by
  rw [arm_eval_Attribute]
  show wpAny _ _ (eval (.Name o op) env >>= _) Q E s
  refine wpAny_bind (wpAny_mono h (fun v s₁ h₁=>wpAny_bind (wpAny_standAt (wpAny_bind (wpAny_holding (wpAny_mono h₁ (fun r s₂ h₂=> ?_) fun _ _ e=>e))))) fun _ _ e=>e)
  show wpAny _ _ (pure () >>= fun _=>pure r) Q E s₂
  exact wpAny_bind (wpAny_pure (wpAny_pure h₂))
theorem SemQ.attr {K:Frag} {o name:Str} {op pos:Pos} {p:Loc} {i:Nat} (hO:SemObj G N cx (.Name o op)) (ho:cx.obj=some (p,true)) (hK:∀ h,G.gB.inH h→K.In h) (C:InstK K G.cls) (hn:name∈instNames) (hp:cx.places[i]? =some (.fld name)):
    SemQ G N cx (.Attribute (.Name o op) name pos) (eVar i):=by
  intro A env act g s st d st' Q E O I hf h
  refine x23 (I.read hp hf) ?_;intro v g' e r T
  refine getAttr_expr (hO O I (I.getAttr ho (hK _ I.gBh) C hn e (handed_rel r) ?_))
  exact h v g' _ (T.trans (T.inv.stepT _)) rfl r
theorem SemP.attr {K:Frag} {o name:Str} {op pos:Pos} {p:Loc} {i:Nat} (hO:SemObj G N cx (.Name o op)) (ho:cx.obj=some (p,true)) (hK:∀ h,G.gB.inH h→K.In h) (C:InstK K G.cls) (hn:name∈instNames) (hp:cx.places[i]? =some (.fld name)):
    SemP G N cx (.Attribute (.Name o op) name pos) i (.fld name):=by
  intro A env act g s st l Q E O I hl h
  refine x33 (I.listAt hp hl) ?_;intro a vs k e1 e2 e3
  refine getAttr_expr (hO O I (I.getAttr ho (hK _ I.gBh) C hn e1 rfl ?_))
  exact h a vs k g _ (I.stepT _) rfl e1 e2 e3
section
variable {K:Frag} {o name:Str} {op pp pos:Pos} {p:Loc} {i:Nat} {e:Expr}
theorem SemS.asgAttr {a:EF} (hO:SemObj G N cx (.Name o op)) (ho:cx.obj=some (p,true)) (hpf:∀ n,p≠ .fld n) (hK:∀ h,G.gB.inH h→K.In h) (C:InstK K G.cls) (hn:name∈instNames) (hp:cx.places[i]? =some (.fld name)) (ha:SemE G N cx e a)
    (hs:∀ env,swapsWith e (some (.Attribute (.Name o op) name pp)) pos.line env=pure false):SemS G N cx (.Assign [.Attribute (.Name o op) name pp] e pos) (sAsg i a):=by
  intro A env act g s st b st' Q E O I hf h
  refine bind2 hf ?_;clear hf;intro x st1 e1 hf
  cases hf using pairE
  refine plainObj_wpAny_Assign_Attribute (ha O I e1 fun v g1 s1 T1 r1=>hO O T1.inv (T1.inv.setAttr ho (hK _ T1.inv.gBh) C hn fun h' tk hD hm hsb hl=> ?_)) (hs env)
  have Y:=T1.inv.storeFld (sl:= .val x) O ho hpf hp hD hm hsb hl tk (fun _ _=>⟨v,rfl,r1⟩) (fun l e=>by cases e)
  exact h _ g1 _ (T1.ss.trans Y.ssV) trivial
theorem SemS.asgAttrL {a:LF} (hO:SemObj G N cx (.Name o op)) (ho:cx.obj=some (p,true)) (hpf:∀ n,p≠ .fld n) (hK:∀ h,G.gB.inH h→K.In h) (C:InstK K G.cls) (hn:name∈instNames) (hp:cx.places[i]? =some (.fld name)) (ha:SemL G N cx e a)
    (hs:∀ env,swapsWith e (some (.Attribute (.Name o op) name pp)) pos.line env=pure false):SemS G N cx (.Assign [.Attribute (.Name o op) name pp] e pos) (sAsgL i a):=by
  intro A env act g s st b st' Q E O I hf h
  refine bind2 hf ?_;clear hf;intro x st1 e1 hf
  cases hf using pairE
  refine plainObj_wpAny_Assign_Attribute (ha O I e1 fun d g1 s1 X=>hO O X.step.inv (X.step.inv.setAttr ho (hK _ X.step.inv.gBh) C hn fun h' tk hD hm hsb hl=> ?_)) (hs env)
  refine x22 X.at_ ?_;intro vs k q hr
  have Y:=X.step.inv.storeFld (sl:= .own x) O ho hpf hp hD hm hsb hl tk (fun h' hk=>⟨d,vs,k,rfl,hk _ _ _ q,X.priv,.inl X.above,hr⟩) (fun _ _ j q l' _ hq hl hf=>X.mine (.inr ⟨j,q,l',hq,hl,hf⟩))
  exact h _ g1 _ (Y.ssO X.step.ss X.fresh) trivial
end
theorem deck_facts {h:Heap} {a:Addr} {u v:Value} (x:h.DictOf (PySem.strKind G.prog G.w) a [("cells",u),("mixed",v)]):h.isNs a=true∧h.nsMap a=(fun n:Str=>valueAt [(("cells":Str),u),("mixed",v)] n):=by
  obtain ⟨o,es,ep,e,_,d,k,pr,nd⟩:=x
  have hpr:∀ {l:List DictEntry} {kvs:List (Str×Value)},Pairs (PySem.strKind G.prog G.w) l kvs→(∀ x∈l,∃ n t,x.key= .str n t)∧∀ n,(l.find? fun x=>x.key.isStr n).map (·.val)=valueAt kvs n:=by
    intro l kvs pr
    induction pr with
    | nil=>exact ⟨(fun _ h=>nomatch h),fun _=>rfl⟩
    | cons h1 h2 _ ih=>
      rename_i en kv es kvs _
      refine x11 (Value.isStrOf_shape h1) ?_;intro t hk
      refine ⟨fun x hx=> ?_,fun n=> ?_⟩
      · rcases List.mem_cons.mp hx with rfl | hx
        · exact ⟨_,_,hk⟩
        · exact ih.1 x hx
      · rw [List.find?_cons]
        unfold valueAt
        rw [List.find?_cons]
        have:en.key.isStr n=decide (kv.1=n):=by
          rw [hk]
          show (kv.1==n)=_
          by_cases hc:kv.1=n
          · simp [hc]
          · simp [hc]
        rw [this]
        by_cases hc:kv.1=n
        · simp only [hc,decide_true]
          simp [h2]
        · simp only [hc,decide_false]
          exact ih.2 n
  refine x02 (hpr pr) ?_;intro q1 q2
  refine ⟨?_,?_⟩
  · unfold Heap.isNs
    rw [e];dsimp only;rw [d];dsimp only
    rw [Array.all_eq_true_iff_forall_mem]
    intro x hx
    refine x21 (q1 x (Array.mem_toList_iff.mpr hx)) ?_;intro n t hk
    rw [hk]
  · funext n
    unfold Heap.nsMap
    rw [e];dsimp only;rw [d];dsimp only
    unfold nsFind findBy
    rw [← Array.find?_toList]
    exact q2 n
theorem stored2a {a b:Str} {u w v:Value} (h:a≠b):stored [(a,u),(b,w)] a v=[(a,v),(b,w)]:=by simp [stored,h.symm]
theorem stored2b {a b:Str} {u w v:Value} (h:a≠b):stored [(a,u),(b,w)] b v=[(a,u),(b,v)]:=by simp [stored,h]
theorem valueAt2 {a b n:Str} {u w:Value} (h:a≠b):valueAt [(a,u),(b,w)] n=if n=a then some u else if n=b then some w else none:=by
  unfold valueAt
  by_cases h1:n=a
  · subst h1;simp
  · have h1': ¬ a=n:=fun e=>h1 e.symm
    by_cases h2:n=b
    · subst h2;simp [h1'];exact fun e=>absurd e h1
    · have h2': ¬ b=n:=fun e=>h2 e.symm
      simp [h1,h2,h1',h2']
noncomputable def deckNames:List Str:=["cells","mixed"]
theorem Inv.deckAt {act:Act} {env:Env} {g:Gh} {s:Shared} {st:St} {p:Loc} (I:Inv G cx act env g s st) (ho:cx.obj=some (p,false)):act.ax=act.dx∧∃ u v,s.heap.DictOf (PySem.strKind G.prog G.w) act.dx [("cells",u),("mixed",v)]:=by
  obtain ⟨⟨h1,_⟩,_,h6,_⟩:=I.obj p false ho
  exact ⟨h6,h1.2.1 rfl⟩
theorem Inv.getDeck {A:Around} {act:Act} {env:Env} {g:Gh} {s:Shared} {st:St} {p:Loc} {name:Str} {t:Tok} {v:Value} {Q E:Value→Shared→Prop} (I:Inv G cx act env g s st) (ho:cx.obj=some (p,false)) (hv:s.heap.nsMap act.dx name=some v)
    (h:Q v { s with toks:=s.toks+1}):wpAny (model G.prog G.w) A (getItem (.ref act.ax) (.str name t)) Q E s:=by
  obtain ⟨e,u,w,hd⟩:=I.deckAt ho
  rw [e]
  have hm:=(deck_facts hd).2
  rw [hm] at hv
  exact wpAny_getItem_of (knd:=PySem.strKind G.prog G.w) (k:=name) (by show Value.isStrOf name (.str name t)=true;simp [Value.isStrOf]) hd.mapOf hv h
theorem item_expr {A:Around} {act:Act} {env:Env} {g:Gh} {s:Shared} {st:St} {p:Loc} {o:Str} {op kp pos:Pos} {kn:Nat} {name:Str} {v:Value} {Q E:Value→Shared→Prop} (O:Ok N cx A env) (I:Inv G cx act env g s st) (hO:SemObj G N cx (.Name o op)) (ho:cx.obj=some (p,false))
    (hs:∀ o i,∃ ops,subscripted (.Constant (.str name) kn kp) false o i=operate ops (getItem o i)) (hv:s.heap.nsMap act.dx name=some v) (h:∀ tk,Q v { s with toks:=tk}):
    wpAny (model G.prog G.w) A (eval (.Subscript (.Name o op) (.Constant (.str name) kn kp) pos) env) Q E s:=by
  refine Subscript_ (hO O I (Calls.Constant_str ?_))
  refine x11 (hs (.ref act.ax) (.str name s.toks)) ?_;intro ops hop
  obtain ⟨e,u,w,hd⟩:=I.deckAt ho
  have hT:({ s with toks:=s.toks+1}:Shared).TypeIs (.ref act.ax) "dict":=by
    rw [e]
    obtain ⟨ob,es,ep,q,⟨c,_⟩,_⟩:=hd
    exact ⟨ob,q,c⟩
  exact tail_any hT slot_dict_getitem.lookup ((I.toks (s.toks+1)).getDeck ho hv (h _)) hop
section
variable {o name:Str} {op kp pp pos:Pos} {kn:Nat} {p:Loc} {i:Nat} {e:Expr}
theorem SemQ.item (hO:SemObj G N cx (.Name o op)) (ho:cx.obj=some (p,false)) (hp:cx.places[i]? =some (.fld name)) (hs:∀ o i,∃ ops,subscripted (.Constant (.str name) kn kp) false o i=operate ops (getItem o i)):
    SemQ G N cx (.Subscript (.Name o op) (.Constant (.str name) kn kp) pos) (eVar i):=by
  intro A env act g s st d st' Q E O I hf h
  refine x23 (I.read hp hf) ?_;intro v g' e r T
  exact item_expr O I hO ho hs e fun tk=>h v g' _ (T.trans (T.inv.stepT tk)) rfl r
theorem SemP.item (hO:SemObj G N cx (.Name o op)) (ho:cx.obj=some (p,false)) (hp:cx.places[i]? =some (.fld name)) (hs:∀ o i,∃ ops,subscripted (.Constant (.str name) kn kp) false o i=operate ops (getItem o i)):
    SemP G N cx (.Subscript (.Name o op) (.Constant (.str name) kn kp) pos) i (.fld name):=by
  intro A env act g s st l Q E O I hl h
  refine x33 (I.listAt hp hl) ?_;intro a vs k e1 e2 e3
  exact item_expr O I hO ho hs e1 fun tk=>h a vs k g _ (I.stepT tk) rfl e1 e2 e3
theorem SemS.asgItem {a:EF} (hO:SemObj G N cx (.Name o op)) (ho:cx.obj=some (p,false)) (hpf:∀ n,p≠ .fld n) (hn:name="cells"∨name="mixed") (hp:cx.places[i]? =some (.fld name)) (ha:SemE G N cx e a)
    (hs:∀ env,swapsWith e (some (.Subscript (.Name o op) (.Constant (.str name) kn kp) pp)) pos.line env=pure false):SemS G N cx (.Assign [.Subscript (.Name o op) (.Constant (.str name) kn kp) pp] e pos) (sAsg i a):=by
  intro A env act g s st b st' Q E O I hf h
  refine bind2 hf ?_;clear hf;intro x st1 e1 hf
  cases hf using pairE
  refine wpAny_Assign_Subscript (ha O I e1 fun v g1 s1 T1 r1=>hO O T1.inv (Calls.Constant_str ?_)) (hs env)
  obtain ⟨e,u,w,hd⟩:=T1.inv.deckAt ho
  rw [e]
  have hm:=(deck_facts hd).2
  refine wpAny_setItem_pairs (s:={ s1 with toks:=s1.toks+1}) (knd:=PySem.strKind G.prog G.w) (k:=name) (by show Value.isStrOf name (.str name s1.toks)=true;simp [Value.isStrOf]) hd (fun h' hd' hsb=> ?_) (show 2≤sizeLine by decide)
  have hst:∃ u' w',stored [(("cells":Str),u),(("mixed":Str),w)] name v=[(("cells":Str),u'),(("mixed":Str),w')]∧(fun n:Str=>valueAt [(("cells":Str),u'),(("mixed":Str),w')] n)=fun n:Str=>if n=name then some v else valueAt [(("cells":Str),u),(("mixed":Str),w)] n:=by
    have hne:("cells":Str)≠"mixed":=by decide
    rcases hn with rfl | rfl
    · refine ⟨v,w,stored2a hne,?_⟩
      funext n
      rw [valueAt2 hne,valueAt2 hne]
      by_cases hc:n=("cells":Str)
      · simp only [hc,if_true]
      · simp only [hc,if_false]
    · refine ⟨u,v,stored2b hne,?_⟩
      funext n
      rw [valueAt2 hne,valueAt2 hne]
      by_cases hc:n=("mixed":Str)
      · subst hc
        simp only [hne.symm,if_false,if_true]
      · simp only [hc,if_false]
  refine x22 hst ?_;(try clear hst);intro u' w' q1 q2
  rw [q1] at hd'
  refine x02 (deck_facts hd') ?_;intro f1 f2
  have hl:∃ ob,h'.get? act.dx=some ob:=let ⟨ob,_,_,q,_⟩:=hd';⟨ob,q⟩
  have Y:=T1.inv.storeFld (sl:= .val x) O ho hpf hp ⟨f1,fun _=>⟨u',w',hd'⟩,fun hb=>by exact ftE hb⟩ (by rw [f2,hm,q2]) hsb hl (s1.toks+1+1) (fun _ _=>⟨v,rfl,r1⟩) (fun l e=>by cases e)
  exact h _ g1 _ (T1.ss.trans Y.ssV) trivial
end
theorem neNilCore {A:Around} {env:Env} {act:Act} {g g1:Gh} {s s1:Shared} {st:St} {a:Addr} {vs:List Value} {n:Nat} {l:List V} {Q:Value→Shared→Prop} {E:Value→Shared→Prop} {p':Pos} (O:Ok N cx A env) (T1:Step G cx act env g s st g1 s1 st)
    (hg:s1.heap.get? a=some (LstO vs n)) (hr:Rels G.prog G.w g1 vs l) (h:∀ g' s',Step G cx act env g s st g' s' st→Q (.bool (!l.isEmpty)) s'):
    wpAny (model G.prog G.w) A (eval (.List [] p') env) (fun v s'=>wpAny (model G.prog G.w) A (compareOp .NotEq (.ref a) v) Q E s') E s1:=by
  refine wpAny_List (wpAny_items_nil ⟨by decide,?_⟩)
  have M:=T1.inv.madeU (LstO [] 0)
  have T:=T1.trans M
  have hlen:=hr.length
  have hu:A.units<cLine:=by have:=O.units;lia
  have h1:=isLst_of (Heap.get?_push_of_some (LstO [] 0) hg)
  have h2:(s1.heap.push (LstO [] 0)).IsList s1.heap.objs.size ([]:List Value).toArray:=⟨_,Heap.get?_push_size _ rfl,rfl,0,rfl⟩
  induction l using List.casesOn with
  | nil=>
    have hv:vs=[]:=List.length_eq_zero_iff.mp hlen
    subst hv
    exact SeqAt.RcNeAt.lists (items:= #[]) (items2:= #[]) (e:=fun _=>true) h1 h2 rfl hu (fun j hj=>by simp at hj) G.prog G.w E Q (h g1 _ T)
  | cons x r=>
    refine SeqAt.RcNeAt.lists_lengths h1 h2 ?_ hu G.prog G.w E Q (h g1 _ T)
    simp at hlen ⊢
    intro e;rw [e] at hlen;simp at hlen
theorem SemT.neNil {e:Expr} {p' pos:Pos} {i:Nat} {q:Loc} (hP:SemP G N cx e i q) (hm:behindInMarks .NotEq (.List [] p')=false):SemT G N cx (.Compare e [.NotEq] [.List [] p'] pos) (tVal (eNeNil i)):=by
  intro A env act g s st d st' Q E O I hf h
  refine bind2 hf ?_;clear hf;intro y st1 e0 hf
  refine bind1 e0 ?_;clear e0;intro l e1 e0
  split at e0
  · induction e0 using pairE
    refine bind1 hf ?_;clear hf;intro b e2 hf
    induction e2 using someE
    cases hf using pairE
    exact wpAny_isTrue_Compare1 (hP O I e1 fun a vs n g1 s1 T1 hh hfe hg hr=>neNilCore O T1 hg hr fun g' s' T=>wpAny_truthy_bool (h g' s' T)) hm
  · exact noneE e0
theorem SemE.pop {o:Expr} {apos pos:Pos} {i:Nat} {p:Loc} (hp:cx.places[i]? =some p) (hP:SemP G N cx o i p) (hbase:∀ env whole,attributeBase o "pop" env whole=whole) (hline:(apos.endLine==pos.line)=true):
    SemE G N cx (.Call (.Attribute o "pop" apos) [] [] pos) (ePop i):=by
  intro A env act g s st d st' Q E O I hf h
  unfold ePop at hf
  cases hl:st[i]? with
  | none=>rw [hl] at hf;exact noneE hf
  | some sl=>
    rw [hl] at hf
    induction sl using Slot.casesOn with
    | own l=>
      dsimp only at hf
      split at hf
      · rename_i hlim
        refine x12 (Option.map_eq_some_iff.mp hf) ?_;intro x hx hf
        cases hf
        refine callMeth (id:="list.pop") (hbase _ _) rfl hline (hP O I (by rw [hl];rfl) fun a vs n g1 s1 T1 hh hfe hg hr=> ?_)
        refine ⟨fun pl Q' hq=>getMethod_builtin ⟨_,hg,rfl⟩ PySem.F.plainAttrs_list PySem.F.slot_list_pop PySem.F.type_list_pop (fun b e=>by cases e;exact ⟨_,hg,rfl⟩) hq,?_⟩
        show wpAny _ _ (callWith pos (.builtin "list.pop") [.ref a] [] []) Q E s1
        have hlen:=hr.length
        have hlim':lim=1000000:=rfl
        have hge:l[l.length - 1]? =some d:=by rw [← List.getLast?_eq_getElem?];exact hx
        refine x12 (hr.get _ hge) ?_;intro v hv hrv
        have hne:l≠[]:=by rintro rfl;exact noneE hx
        have hvne:vs≠[]:=by
          intro e
          rw [e] at hlen
          exact hne (List.length_eq_zero_iff.mp hlen.symm)
        refine P.pop_list (items:=vs.toArray) (y:=v) hg (by rw [List.size_toArray,hlen,List.getElem?_toArray];exact hv) ?_ (by rw [List.size_toArray,hlen];have:=lim_le;lia)
        have e':(s1.heap.update a (Obj.mapSeq fun xs=>xs.eraseIdxIfInBounds (vs.toArray.size - 1))).get? a=some (LstO vs.dropLast (n+1)):=by
          rw [Heap.get?_update_self _ hg rfl]
          rw [show LstO vs n={ cls:= .type "list",dict:=Option.none,data:= .seq vs.toArray n,slots:= #[]} from rfl,Copied.mapSeq_pop vs.toArray n (by rw [List.size_toArray];exact fun e=>hvne (List.length_eq_zero_iff.mp e)) Option.none #[],List.pop_toArray]
          rfl
        refine h v g1 _ (T1.trans (T1.inv.putL (vs':=vs.dropLast) (n':=n+1) s1.toks hp hl hfe hg (Heap.SameBut.update ..) e' ?_)) hrv
        have:=hr.take (vs.length - 1)
        rw [← List.dropLast_eq_take] at this
        rw [hlen,← List.dropLast_eq_take] at this
        exact this
      · exact noneE hf
    | _=>exact noneE hf
end
end Mine
end
section
open PySem PySem.Calls PyProof.Rows PySem.W
set_option maxRecDepth 10000
namespace Mine
section
variable {G:Top0} {N:Nat} {cx:Cx}
noncomputable def CallO (G:Top0) (N:Nat) (a:Addr) (b:Bool) (fn:List Str) (k:Nat) (F:List Slot→List V→Option (V×List Slot)):Prop:=
  ∀ ⦃A:Around⦄ ⦃act:Act⦄ ⦃g:Gh⦄ ⦃s:Shared⦄ ⦃vs:List Value⦄ ⦃ds:List V⦄ ⦃fs fs':List Slot⦄ ⦃d:V⦄ ⦃R:Result→Shared→Prop⦄,AOk N A→G.gB.le g→g.inH s.heap→Rels G.prog G.w g vs ds→ds.length=k→ObjOk G act fn b g s.heap fs→F fs ds=some (d,fs')→
  (∀ v g' s',ExtW (OTf fn s.heap act.dx fs) g s.heap g' s'.heap→s'.gens=s.gens→s'.os=s.os→Rel G.prog G.w g' v d→ObjOk G (act.into fn g s fs) fn b g' s'.heap fs'→R (.ok (.ret v)) s')→
  codeAny (model G.prog G.w) A (.call (.ref a) ⟨.ref act.ax::vs,[]⟩) R s
structure FnOkO (fd:FuncData) (cx:Cx) (on:Str) (pn:List Str) (body:List Stmt) (pre:List Loc) (fn:List Str) (p:Loc) (b:Bool):Prop where
  hbody:fd.body= .stmts body
  hclo:fd.closure=[]
  hglob:fd.globals=mainGlobals
  hbi:fd.builtins=builtinsNs
  hsc:cx.sc=fd.scope
  hco:fd.scope.isCoroutine=false
  hgen:fd.scope.isGenerator=false
  hk:fd.scope.kind= .function
  nodup:cx.places.Nodup
  pnd:(on::pn).Nodup
  hpn:pn.length≤pre.length
  C:CxObj cx pre fn p b
  hp:(p= .loc on∧fd.scope.names.lookup on=some .local)∨(p= .cell on∧fd.scope.names.lookup on=some .cell)
  np:p ∉ cx.places
  pl:∀ (i:Nat) (n:Str),pn[i]? =some n→(pre[i]? =some (.loc n)∧fd.scope.names.lookup n=some .local)∨(pre[i]? =some (.cell n)∧fd.scope.names.lookup n=some .cell)
  cells:∀ n,Loc.cell n∈cx.places→fd.scope.names.lookup n=some .cell
theorem bound {fd:FuncData} {act:Act} {s s₁:Shared} {L a:Addr} {binds:List (Str×Value)} {i:Nat} {n:Str} {v:Value} {q:Loc}
    (x:InCallC s (callEnvC fd L a).locals (bindL (callEnvC fd L a).kindOf binds fun _=>none) (callEnvC fd L a).cells (bindC (callEnvC fd L a).kindOf binds fun _=>none) s₁)
    (hn:(binds.map (·.1)).Nodup) (hb:binds[i]? =some (n,v)) (hq:(q= .loc n∧fd.scope.names.lookup n=some .local)∨(q= .cell n∧fd.scope.names.lookup n=some .cell)):
    fetch s₁.heap (callEnvC fd L a) act.dx q=some v:=by
  rcases hq with ⟨rfl,h2⟩ | ⟨rfl,h2⟩
  · show s₁.heap.nsMap (callEnvC fd L a).locals n=some v
    rw [(nsMap_of x.toInCall.ns).2]
    exact bindL_at _ h2 hn hb
  · have hs:=cellsFrom_some fd.scope.names (L+1) [] (.inl h2)
    refine x11 (Option.isSome_iff_exists.mp hs) ?_;intro c hc
    show (match (cellsFrom (L+1) fd.scope.names []).lookup n with | some c=>cellVal s₁.heap c | none=>none)=some v
    rw [hc]
    exact (cellVal_of (x.cell _ c hc)).trans (bindC_at _ h2 hn hb)
theorem CallO.mk {a:Addr} {o:Obj} {fd:FuncData} {on:Str} {pn:List Str} {body:List Stmt} {f:SF} {pre:List Loc} {fn:List Str} {p:Loc} {b:Bool} (ho:G.gB a=some o) (hd:o.data= .func fd) (K:FnOkO fd cx on pn body pre fn p b)
    (hcd:∀ h,G.gB.inH h→h.CodeRec fd.code fd.qualname)
    (hbind:∀ s vs,G.gB.inH s.heap→vs.length=pn.length+1→BindsTo s fd ⟨vs,[]⟩ ((on::pn).zip vs)) (hS:SemB G N cx body f):
    CallO G (N+1) a b fn pn.length (runO pre.length f):=by
  intro A act g s vs ds fs fs' d R O hB hg r hk ob e h
  have hlv:vs.length=pn.length:=r.length.trans hk
  have hBh:G.gB.inH s.heap:=fun a o q=>hg a o (hB a o q)
  obtain ⟨⟨fl,st'⟩,e1,e2⟩:=opt_bind (x:=f (st0 pre.length ds++fs)) (by exact e)
  have hbl:vs.length+1=pn.length+1:=by lia
  have hz:((on::pn).zip (.ref act.ax::vs)).map (·.1)=on::pn:=List.map_fst_zip (by simp;lia)
  have hzi:∀ {i:Nat} {n:Str} {v:Value},pn[i]? =some n→vs[i]? =some v→((on::pn).zip (.ref act.ax::vs))[i+1]? =some (n,v):=fun {i n v} h1 h2=>by
    rw [List.getElem?_zip_eq_some];exact ⟨by simpa using h1,by simpa using h2⟩
  refine enter (by have:=O.depth;lia) (hBh _ _ ho) hd (G.lim _ hBh) (hcd _ hBh) K.hbody (hbind s _ hBh (by simp;lia)) K.hclo ?_ (fun s₁ x=> ?_) K.hco K.hgen K.hk
  · rintro ⟨n,v⟩ hx
    have hn:=(List.of_mem_zip hx).1
    rcases List.mem_cons.mp hn with rfl | hn
    · rcases K.hp with ⟨_,q⟩ | ⟨_,q⟩
      · exact .inl q
      · exact .inr ⟨q,cellsFrom_some _ _ _ (.inl q)⟩
    · refine x11 (List.mem_iff_getElem?.mp hn) ?_;intro i hi
      rcases K.pl i n hi with ⟨_,q⟩ | ⟨_,q⟩
      · exact .inl q
      · exact .inr ⟨q,cellsFrom_some _ _ _ (.inl q)⟩
  refine x21 x.toInCall.same ?_;intro h₁ tk hs₁
  let act':=act.into fn g s fs
  let env:=callEnvC fd s.heap.objs.size a
  have hfr:=x.toInCall.fresh
  have hgl:∀ b,s.heap.objs.size≤b→g b=none:=fun b hb=>Gh.fresh hg (dead_end _ hb)
  have kp:=x.toInCall.keep
  have kD:=nsMap_keep ob.ns.1 fun o q=>kp _ o q
  have obi:=ob.into (s:=s)
  have hplen:(st0 pre.length ds).length=pre.length:=by
    have:=K.hpn
    simp only [st0,List.length_append,List.length_map,List.length_replicate];lia
  have hcell:∀ n,fd.scope.names.lookup n=some .cell→∃ c,env.cells.lookup n=some c∧s₁.heap.IsCell c (bindC env.kindOf ((on::pn).zip (.ref act.ax::vs)) (fun _=>none) n)∧g c=none:=fun n hn=>by
    have hs:=cellsFrom_some fd.scope.names (s.heap.objs.size+1) [] (.inl hn)
    refine x11 (Option.isSome_iff_exists.mp hs) ?_;intro c hc
    exact ⟨c,hc,x.cell n c hc,hgl c (Nat.le_trans hfr (Nat.le_of_lt (x.above n c (mem_of_lookup hc))))⟩
  have I:Inv G cx act' env g s₁ (st0 pre.length ds++fs):=by
    refine ⟨by rw [hs₁];rfl,by rw [hs₁];rfl,hB,⟨.refl _,fun a o q=>kp a o (hg a o q),fun a o q _=>kp a o q,fun _ _ _ q _=>q,dead_of_keep kp⟩,dead_end _ (Nat.le_refl _),hgl _ (Nat.le_refl _),(nsMap_of x.toInCall.ns).1,?_,fun n hn=> ?_,fun i q sl hq hs=> ?_,fun i j q q' l l' hij hq hq' hl hl'=> ?_,fun q b' hq=> ?_,fun hno=> ?_,fun _ n c e=>dead_end _ (Nat.le_trans hfr (Nat.le_of_lt (x.above n c (mem_of_lookup e))))⟩
    · rw [List.length_append,hplen,ob.len,K.C.pl];simp
    · refine x13 (hcell n (K.cells n hn)) ?_;intro c h1 h2 h3
      exact ⟨c,_,h1,h2,h3⟩
    · by_cases hi:i<pre.length
      · rw [List.getElem?_append_left (by lia)] at hs
        rw [K.C.lt hi] at hq
        rcases st0_get hs with ⟨d',e,rfl⟩ | rfl
        · refine x12 (r.get i e) ?_;intro v hv hr
          have hip:i<pn.length:=by rw [← hlv];exact (List.getElem?_eq_some_iff.mp hv).1
          have hpi:pn[i]? =some pn[i]:=by simp [hip]
          refine ⟨v,bound x (by rw [hz];exact K.pnd) (hzi hpi hv) ?_,hr⟩
          rcases K.pl i _ hpi with ⟨q1,q2⟩ | ⟨q1,q2⟩
          · rw [hq] at q1;cases q1;exact .inl ⟨rfl,q2⟩
          · rw [hq] at q1;cases q1;exact .inr ⟨rfl,q2⟩
        · trivial
      · have hi:pre.length≤i:=by lia
        rw [List.getElem?_append_right (by lia),hplen] at hs
        rw [K.C.ge hi] at hq
        refine x12 (Option.map_eq_some_iff.mp hq) ?_;intro n hn hq2;subst hq2
        show SlotOk G act' g s₁.heap (s₁.heap.nsMap act.dx n) sl
        rw [kD.2]
        have:=obi.slots _ n sl hn hs
        induction sl using Slot.casesOn with
        | unset=>trivial
        | val d=>exact this
        | own l=>
          refine x35 this ?_;(try clear this);intro a' vs' k' y1 y2 y3 y4 y5
          exact ⟨a',vs',k',y1,kp _ _ y2,y3,y4,y5⟩
    · have low:∀ {i:Nat} {l:List V},(st0 pre.length ds++fs)[i]? =some (.own l)→pre.length≤i:=fun {i l} hl=>by
        apply Decidable.byContradiction
        intro hc
        rw [List.getElem?_append_left (by lia)] at hl
        rcases st0_get hl with ⟨_,_,q⟩ | q <;> cases q
      have hi:=low hl
      have hj:=low hl'
      rw [List.getElem?_append_right (by lia),hplen] at hl hl'
      rw [K.C.ge hi] at hq
      rw [K.C.ge hj] at hq'
      refine x12 (Option.map_eq_some_iff.mp hq) ?_;intro n hn hq2;subst hq2
      refine x12 (Option.map_eq_some_iff.mp hq') ?_;intro n' hn' hq2;subst hq2
      show s₁.heap.nsMap act.dx n≠s₁.heap.nsMap act.dx n'
      rw [kD.2]
      exact ob.apart _ _ n n' l l' (by lia) hn hn' hl hl'
    · have:q=p∧b'=b:=by have:=K.C.obj;rw [this] at hq;induction hq using pairE;exact ⟨rfl,rfl⟩
      refine x02 this ?_;(try clear this);intro hq0 hq1;subst hq0;subst hq1
      refine x32 (Heap.Ns.of_isNs ob.ns.1) ?_;intro oD _ _ eD _
      refine ⟨⟨ob.ns.keep fun o q=>kp _ o q,ob.gd,live_ne eD (dead_end _ (Nat.le_refl _)),.inr (.inl rfl)⟩,bound (i:=0) (v:= .ref act.ax) x (by rw [hz];exact K.pnd) rfl K.hp,ob.ref,fun n hn=> ?_⟩
      have hnc:fd.scope.names.lookup n=some .cell:=by
        rcases K.hp with ⟨q,_⟩ | ⟨q,q'⟩
        · rw [hn] at q;cases q
        · rw [hn] at q;cases q;exact q'
      refine x13 (hcell n hnc) ?_;intro c h1 h2 h3
      exact ⟨c,_,h1,h2,h3⟩
    · rw [K.C.obj] at hno;exact noneE' hno
  have O':Ok N cx (A.deeper env) env:=⟨K.hsc.symm,by rw [K.hsc];exact K.hk,K.hglob,K.hbi,O.handled,by have:=O.depth;show A.depth+1+N<_;lia,by have:=O.units;show A.units+3+20*N+20<_;lia,K.nodup,(fun q b' hq=>by rw [K.C.obj] at hq;induction hq using pairE;exact K.np),x.apart⟩
  refine hS O' I e1 fun fl' g' s' SS hr=> ?_
  have J:=SS.inv
  have X:ExtW (OTf fn s.heap act.dx fs) g s.heap g' s'.heap:=J.ext
  have y1:s'.gens=s.gens:=J.gens
  have y2:s'.os=s.os:=J.os
  have ob':=J.toObj K.C
  induction fl using Fl.casesOn with
  | next=>
    cases fl' <;> try (exact hr.elim)
    induction e2 using pairE
    exact h _ g' s' X y1 y2 .none ob'
  | ret d'=>
    cases fl' <;> try (exact hr.elim)
    induction e2 using pairE
    exact h _ g' s' X y1 y2 hr ob'
end
end Mine
end
section
open PySem PySem.Calls PyProof.Rows PySem.W
set_option maxRecDepth 10000
namespace Mine
section
variable {G:Top0} {N:Nat} {cx:Cx}
theorem callOend {A:Around} {env:Env} {act:Act} {g g1:Gh} {s s1:Shared} {st st1:St} {a:Addr} {b:Bool} {fn:List Str} {pre:List Loc} {q:Loc} {k M:Nat} {F:List Slot→List V→Option (V×List Slot)} {xs:List V} {vs:List Value} {z:V} {fs':List Slot} {Q E:Value→Shared→Prop}
    (O:Ok N cx A env) (T:Step G cx act env g s st g1 s1 st1) (hC:CallO G M a b fn k F) (hM:M≤N) (C:CxObj cx pre fn q b) (r:Rels G.prog G.w g1 vs xs) (hl:xs.length=k) (e:F (st1.drop pre.length) xs=some (z,fs'))
    (h:∀ v g' s',Step G cx act env g s st g' s' (st1.take pre.length++fs')→Rel G.prog G.w g' v z→Q v s'):wpAny (model G.prog G.w) A (PySem.call (.ref a) (.ref act.ax::vs) []) Q E s1:=
  wpAny_call (hC (O.aok.mono hM) T.inv.gBg T.inv.gh r hl (T.inv.toObj C) e fun v g2 s2 X x1 x2 r2 ob=>h v g2 s2 (T.trans (T.inv.back C (O.objp _ _ C.obj) X x1 x2 ob).1) r2)
theorem SemE.callO {n:Str} {p pos:Pos} {oe:Expr} {es:List Expr} {fs:List EF} {a:Addr} {o:Obj} {fd:FuncData} {k M:Nat} {b:Bool} {fn:List Str} {pre:List Loc} {q:Loc} {F:List Slot→List V→Option (V×List Slot)} (hn:G.mg n=some (.ref a)) (ho:G.gB a=some o) (hd:o.data= .func fd)
    (hC:CallO G M a b fn k F) (hM:M≤N) (C:CxObj cx pre fn q b) (hO:SemObj G N cx oe) (ha:SemEs G N cx es fs) (hl:fs.length=k) (he:isStarred oe=false) (hk:cx.sc.names.lookup n=some .globalImplicit) (hdb:(n==("__debug__":Str))=false):
    SemE G N cx (.Call (.Name n p) (oe::es) [] pos) (eCallO pre.length F fs):=by
  intro A env act g s st d st' Q E O I hf h
  refine bind2 hf ?_;clear hf;intro xs st1 e1 hf
  refine bind2 hf ?_;clear hf;intro z fs' e2 hf
  cases hf using pairE
  refine wpAny_Call_NameR (Name_function_global (by rw [O.sc];exact O.kind) (by unfold Env.kindOf;rw [O.sc];exact hk) (loadGlobal_global (O.glob ▸ G.g _ I.gBh) hn ?_) hdb)
  refine callWith_function (o:=o) (fd:=fd) ?_
  rw [starEach_plain he]
  refine evalArgs_plain ?_
  have:=wpAny_items_cons (M:=model G.prog G.w) (A:=A) (env:=env) (pos:=pos) (s:=s) (E:=E) (Q:=fun vs s'=>(s'.heap.get? a=some o∧o.data= .func fd)∧wpAny (model G.prog G.w) A (PySem.call (.ref a) ([]++vs) []) Q E s') (e:=oe) (rest:=es)
    (hO O I (ha (pos:=pos) (E:=E) O I e1 fun vs g1 s1 T r=>⟨⟨T.inv.gBh _ _ ho,hd⟩,callOend O T hC hM C r ((evs_length e1).trans hl) e2 h⟩)) (starEach_plain he env)
  rw [starEach_plain he] at this
  exact this
theorem callFn {A:Around} {env:Env} {s:Shared} {Q E:Value→Shared→Prop} {o:Expr} {args:List Expr} {name:Str} {apos pos:Pos} {fv:Value} (hbase:attributeBase o name env (eval o env)=eval o env)
    (hfew:((backTo pos (starEach args env)).all (fun x=> !x.1) && (backToKw pos (keywordEach [] env)).all (fun x=>x.1.isSome)
      && decide (args.length+([]:List Keyword).length+(if ([]:List Keyword).isEmpty then 0 else 1)<30))=true)
    (hline:(apos.endLine==pos.line)=true)
    (h:wpAny (model G.prog G.w) A (eval o env) (fun ov s₁=>(∀ (pl:Sem Bool) (Q':Value×List Value→Shared→Prop),Q' (fv,[ov]) s₁→wpAny (model G.prog G.w) A (getMethod ov name pl) Q' E s₁)∧
      wpAny (model G.prog G.w) A (callWith pos fv [ov] (backTo pos (starEach args env)) []) Q E s₁) E s):
    wpAny (model G.prog G.w) A (eval (.Call (.Attribute o name apos) args [] pos) env) Q E s:=by
  rw [arm_eval_Call,hbase]
  refine wpAny_bind (wpAny_mono h (fun ov s₁ h₁=> ?_) fun _ _ e=>e)
  refine x02 h₁ ?_;try clear h₁;intro hget fin
  refine wpAny_bind (wpAny_standAt ?_)
  first
    | (
       have hform:methodCallForm (args.length+([]:List Keyword).length) (backTo pos (starEach args env)) (backToKw pos (keywordEach [] env))=true:=hfew
       have hpos:methodCallPos true o env apos pos=pure pos:=by unfold methodCallPos;simp [hline]
       unfold methodCall
       rw [hform]
       refine wpAny_bind (wpAny_holding (hget _ _ ?_))
       exact wpAny_bind (wpAny_of_eq hpos fin))
    | (
       simp only [hfew,hline,if_true,Bool.not_true,Bool.or_true]
       refine wpAny_bind (wpAny_holding (hget _ _ ?_))
       exact wpAny_bind (wpAny_pure fin))
theorem SemE.callM0 {K:Frag} {on name:Str} {op apos pos:Pos} {a:Addr} {o:Obj} {fd:FuncData} {M:Nat} {fn:List Str} {pre:List Loc} {q:Loc} {F:List Slot→List V→Option (V×List Slot)} (hO:SemObj G N cx (.Name on op)) (C:CxObj cx pre fn q true) (hK:∀ h,G.gB.inH h→K.In h) (I0:InstK K G.cls)
    (ho:G.gB a=some o) (hd:o.data= .func fd) (hn:name ∉ instNames) (hfi:findIn K (.ref G.cls) name=some (some (.ref a))) (hty:typeIn K (.ref a)=some (.type "function")) (hC:CallO G M a true fn 0 F) (hM:M≤N)
    (hline:(apos.endLine==pos.line)=true):SemE G N cx (.Call (.Attribute (.Name on op) name apos) [] [] pos) (eCallO pre.length F []):=by
  intro A env act g s st d st' Q E O I hf h
  refine bind2 hf ?_;clear hf;intro xs st1 e1 hf
  refine bind2 hf ?_;clear hf;intro z fs' e2 hf
  cases hf using pairE
  induction e1 using pairE
  refine callFn (fv:= .ref a) rfl rfl hline (hO O I ⟨fun pl Q' hq=>I.getMeth C.obj (hK _ I.gBh) I0 hn hfi hty hq,?_⟩)
  exact callWith_meth0 hd (I.gBh _ _ ho) (callOend O (.refl I) hC hM C .nil rfl e2 h)
theorem SemE.callM {K:Frag} {on name:Str} {op apos pos:Pos} {e:Expr} {es:List Expr} {fs:List EF} {k:Nat} {a:Addr} {o:Obj} {fd:FuncData} {M:Nat} {fn:List Str} {pre:List Loc} {q:Loc} {F:List Slot→List V→Option (V×List Slot)} (hO:SemObj G N cx (.Name on op)) (C:CxObj cx pre fn q true) (hK:∀ h,G.gB.inH h→K.In h) (I0:InstK K G.cls)
    (ho:G.gB a=some o) (hd:o.data= .func fd) (hn:name ∉ instNames) (hfi:findIn K (.ref G.cls) name=some (some (.ref a))) (hty:typeIn K (.ref a)=some (.type "function")) (hC:CallO G M a true fn k F) (hM:M≤N)
    (ha:SemEs G N cx (e::es) fs) (hl:fs.length=k) (he:isStarred e=false) (hfew:∀ env,((backTo pos (starEach (e::es) env)).all (fun x=> !x.1) && (backToKw pos (keywordEach [] env)).all (fun x=>x.1.isSome)
      && decide ((e::es).length+([]:List Keyword).length+(if ([]:List Keyword).isEmpty then 0 else 1)<30))=true)
    (hline:(apos.endLine==pos.line)=true):SemE G N cx (.Call (.Attribute (.Name on op) name apos) (e::es) [] pos) (eCallO pre.length F fs):=by
  intro A env act g s st d st' Q E O I hf h
  refine bind2 hf ?_;clear hf;intro xs st1 e1 hf
  refine bind2 hf ?_;clear hf;intro z fs' e2 hf
  cases hf using pairE
  refine callFn (fv:= .ref a) rfl (hfew env) hline (hO O I ⟨fun pl Q' hq=>I.getMeth C.obj (hK _ I.gBh) I0 hn hfi hty hq,?_⟩)
  refine callWith_function (o:=o) (fd:=fd) ?_
  rw [starEach_plain he]
  refine evalArgs_plain ?_
  have:=ha (pos:=pos) (E:=E) (Q:=fun vs s'=>(s'.heap.get? a=some o∧o.data= .func fd)∧wpAny (model G.prog G.w) A (PySem.call (.ref a) ([.ref act.ax]++vs) []) Q E s') O I e1 fun vs g1 s1 T r=>
    ⟨⟨T.inv.gBh _ _ ho,hd⟩,callOend O T hC hM C r ((evs_length e1).trans hl) e2 h⟩
  rw [starEach_plain he] at this
  exact this
end
end Mine
end
section
open PySem PySem.Calls PyProof.Rows PySem.W
set_option maxRecDepth 10000
namespace Mine
section
variable {G:Top0} {N:Nat} {cx:Cx}
noncomputable def SemTs (G:Top0) (N:Nat) (cx:Cx) (ifs:List Expr) (fs:List TF):Prop:=∀ ⦃A env act g s st b st'⦄ ⦃Q:Bool→Shared→Prop⦄ ⦃E:Value→Shared→Prop⦄,Ok N cx A env→Inv G cx act env g s st→tests fs st=some (b,st')→
  (∀ g' s',Step G cx act env g s st g' s' st'→Q b s')→
  wpAny (model G.prog G.w) A (forIn ifs true fun c r=>if r=true then do let ok←isTrue c env (eval c env);pure (ForInStep.yield ok) else pure (ForInStep.yield r)) Q E s
theorem SemTs.nil:SemTs G N cx [] []:=by
  intro A env act g s st b st' Q E O I hf h
  cases hf using pairE
  exact wpAny_tests_nil (h g s (.refl I))
theorem SemTs.one {c:Expr} {f:TF} (hc:SemT G N cx c f):SemTs G N cx [c] [f]:=by
  intro A env act g s st b st' Q E O I hf h
  refine bind2 hf ?_;clear hf;intro v st1 e1 hf
  refine wpAny_tests_one (hc O I e1 fun g1 s1 T=> ?_)
  induction v using Bool.casesOn with
  | true=>induction hf using pairE;exact h g1 s1 T
  | false=>induction hf using pairE;exact h g1 s1 T
theorem compRun {A:Around} {cenv:Env} {act:Act} {g0:Gh} {s0:Shared} {cst0 cstE:St} {I0 D:Addr} {ds xs:List V} {W:Nat→Heap→Prop} {elt iter:Expr} {x:Str} {px:Pos} {ifs:List Expr} {scope:Scope} {pos:Pos} {fs:List TF} {f:EF} {n0:Nat} {R:Result→Shared→Prop}
    (O:Ok N cx A cenv) (I:Inv G cx act cenv g0 s0 cst0) (hS:Stores G N cx 0 x) (ht:SemTs G N cx ifs fs) (he:SemE G N cx elt f)
    (it:Iter G I0 ds g0 W) (h0:W 0 s0.heap) (SI:Spare cx act cenv g0 s0 cst0 I0) (SD:Spare cx act cenv g0 s0 cst0 D) (hne:I0≠D) (hD:s0.heap.get? D=some (LstO [] n0)) (hlen:ds.length≤lim)
    (hf:compLoop [0] fs f ds cst0=some (xs,cstE))
    (h:∀ g' s',Inv G cx act cenv g' s' cstE→Spare cx act cenv g' s' cstE D→(∃ vs n,s'.heap.get? D=some (LstO vs n)∧Rels G.prog G.w g' vs xs)→R (.ok .next) s'):
    codeAny (model G.prog G.w) A (.compLoop (.ListComp elt [⟨.Name x px,iter,ifs,0⟩] scope pos) 0 (.ref I0) (.ref D) cenv) R s0:=by
  refine codeAny_compLoop_tests (fun k s'=>∃ (i:Nat) (g':Gh) (cst:St) (done rest:List V),k=ds.length - i∧i≤ds.length∧g0.le g'∧Inv G cx act cenv g' s' cst∧Spare cx act cenv g' s' cst I0∧Spare cx act cenv g' s' cst D∧W i s'.heap∧
      (∃ vs n,s'.heap.get? D=some (LstO vs n)∧Rels G.prog G.w g' vs done)∧done.length≤i∧compLoop [0] fs f (ds.drop i) cst=some (rest,cstE)∧xs=done++rest) ?_ ds.length
    ⟨0,g0,cst0,[],xs,by lia,by lia,.refl _,I,SI,SD,h0,⟨[],n0,hD,.nil⟩,Nat.le_refl _,by simpa using hf,rfl⟩
  rintro k s1 ⟨i,g1,cst,done,rest,rfl,hi,le1,I1,SI1,SD1,hW,⟨vs,n,hv,hr⟩,hdl,hf1,rfl⟩
  by_cases hlt:i<ds.length
  · have hdi:ds[i]? =some ds[i]:=by simp [hlt]
    rw [List.drop_eq_getElem_cons hlt] at hf1
    refine x12 (opt_bind (x:=bindT [0] ds[i] cst) hf1) ?_;intro cst2 e2 hf2
    induction e2 using someE
    obtain ⟨⟨c,cst3⟩,e3,hf3⟩:=opt_bind (x:=tests fs _) hf2
    refine it.item O.handled le1 hdi hW fun v h' tk hrv hW' hex=> ?_
    have I2:=I1.poke SI1 hex tk
    have SI2:=SI1.poke I1 hex tk SI1 (it.live hW')
    have eD:h'.get? D=some (LstO vs n):=hex D _ (Ne.symm hne) hv
    have SD2:Spare cx act cenv g1 { s1 with heap:=h',toks:=tk} cst D:=Spare.poke I1 SI1 hex tk SD1 ⟨_,eD⟩
    refine PyProof.Rows.assign_Name (hS.val O I2 hrv fun s3 S3=> ?_)
    refine x02 (S3.sp _ SI2) ?_;intro SI3 kI3
    refine x02 (S3.sp _ SD2) ?_;intro SD3 kD3
    refine ht O S3.inv e3 fun g4 s4 T4=> ?_
    have SI4:=SI3.step T4
    have SD4:=SD3.step T4
    have kI4:s4.heap.get? I0=h'.get? I0:=let ⟨o,e⟩:=SI3.live;(SI3.keep T4 e).trans (e.symm.trans kI3)
    have kD4:s4.heap.get? D=some (LstO vs n):=SD3.keep T4 (kD3.trans eD)
    have le4:=(le1.trans S3.le).trans T4.gg
    induction c using Bool.casesOn with
    | false=>
      rw [if_neg (by decide)]
      exact ⟨ds.length - (i+1),by lia,i+1,g4,cst3,done,rest,rfl,hlt,le4,T4.inv,SI4,SD4,it.frame hW' le4 T4.inv.gh kI4,⟨vs,n,kD4,hr.le (S3.le.trans T4.gg)⟩,by lia,hf3,rfl⟩
    | true=>
      rw [if_pos rfl]
      obtain ⟨⟨y,cst5⟩,e5,hf5⟩:=opt_bind (x:=f cst3) hf3
      obtain ⟨⟨ys,cst6⟩,e6,hf6⟩:=opt_bind (x:=compLoop [0] fs f _ cst5) hf5
      induction hf6 using pairE
      refine he O T4.inv e5 fun u g5 s5 T5 r5=> ?_
      have SI5:=SI4.step T5
      have SD5:=SD4.step T5
      have kI5:s5.heap.get? I0=h'.get? I0:=let ⟨o,e⟩:=SI4.live;(SI4.keep T5 e).trans (e.symm.trans kI4)
      have kD5:s5.heap.get? D=some (LstO vs n):=SD4.keep T5 kD4
      have hr5:=hr.le ((S3.le.trans T4.gg).trans T5.gg)
      have le5:=le4.trans T5.gg
      refine wpAny_list_append_plain (items:=vs.toArray) ⟨n,kD5⟩ (fun h6 ⟨n6,e6'⟩ hs6=> ?_) (by rw [List.size_toArray,hr.length];have:=lim_le;lia)
      rw [show vs.toArray.push u=(vs++[u]).toArray by simp] at e6'
      have I6:=T5.inv.poke SD5 hs6.extBut s5.toks
      have SD6:=SD5.poke T5.inv hs6.extBut s5.toks SD5 ⟨_,e6'⟩
      have kI6:h6.get? I0=h'.get? I0:=(hs6.2 I0 hne).trans kI5
      have SI6:=Spare.poke T5.inv SD5 hs6.extBut s5.toks SI5 (by refine x11 (it.live hW') ?_;intro o e;exact ⟨o,kI6.trans e⟩)
      exact ⟨ds.length - (i+1),by lia,i+1,g5,cst5,done++[y],ys,rfl,hlt,le5,I6,SI6,SD6,it.frame hW' le5 I6.gh kI6,⟨vs++[u],n6,e6',hr5.append (.cons r5 .nil)⟩,by simp;lia,e6,by simp⟩
  · have:i=ds.length:=by lia
    subst this
    rw [List.drop_length] at hf1
    induction hf1 using pairE
    refine it.done O.handled hW fun h' tk hex=> ?_
    have I2:=I1.poke SI1 hex tk
    have eD:h'.get? D=some (LstO vs n):=hex D _ (Ne.symm hne) hv
    have SD2:=Spare.poke I1 SI1 hex tk SD1 ⟨_,eD⟩
    exact h g1 _ I2 SD2 ⟨vs,n,eD,by simpa using hr⟩
end
end Mine
end
section
open PySem PySem.Calls PyProof.Rows PySem.W
set_option maxRecDepth 10000
namespace Mine
section
variable {G:Top0} {N:Nat} {cx cxc:Cx}
noncomputable def CompOpen (G:Top0) (N:Nat) (cx cxc:Cx) (A:Around) (act:Act) (env:Env) (scope:Scope) (cl:List (Str×Addr)) (g1:Gh) (s1:Shared) (st1 cst0 cstE stE:St):Prop:=
  ∀ cenv s4,cenv.scope=relabel scope env→cenv.cells=cl→cenv.globals=env.globals→cenv.builtins=env.builtins→s1.heap.get? cenv.locals=none→s4.heap.isNs cenv.locals=true→(∀ a o,s1.heap.get? a=some o→s4.heap.get? a=some o)→s4.gens=s1.gens→s4.os=s1.os→
    Ok N cxc A cenv∧∃ act',act'.hE=s1.heap∧Inv G cxc act' cenv g1 s4 cst0∧(∀ d,s1.heap.get? d=none→(∃ o,s4.heap.get? d=some o)→d≠cenv.locals→Spare cxc act' cenv g1 s4 cst0 d)∧
      (∀ g' s',Inv G cxc act' cenv g' s' cstE→Step G cx act env g1 s1 st1 g' s' stE∧∀ d,Spare cxc act' cenv g' s' cstE d∨d=cenv.locals→Spare cx act env g' s' stE d)
theorem compCore {A:Around} {env:Env} {act:Act} {g:Gh} {s:Shared} {st st1 cst0 cstE stE:St} {ds xs:List V} {elt iter:Expr} {x:Str} {px:Pos} {ifs:List Expr} {scope:Scope} {cl:List (Str×Addr)} {pos cpos:Pos} {fit:LF} {fs:List TF} {f:EF} {use:Option (Value→Sem Unit)} {Q E:Value→Shared→Prop}
    (O:Ok N cx A env) (I:Inv G cx act env g s st) (hi:SemI G N cx iter fit) (e1:fit st=some (ds,st1)) (hS:Stores G N cxc 0 x) (ht:SemTs G N cxc ifs fs) (he:SemE G N cxc elt f)
    (hf:compLoop [0] fs f ds cst0=some (xs,cstE)) (hs:∀ env x,foldedSetIterable iter env x=pure x) (hclos:closureFor scope env=pure cl) (hkind:scope.kind= .function)
    (hnames:∀ x∈scope.names,x.2= .local→scope.names.lookup x.1=some .local) (hcell:∀ y∈scope.names,y.2≠ .cell)
    (ho:∀ g1 s1,Step G cx act env g s st g1 s1 st1→CompOpen G N cx cxc A act env scope cl g1 s1 st1 cst0 cstE stE)
    (hend:∀ D C g' s',Step G cx act env g s st g' s' stE→s.heap.get? D=none→s.heap.get? C=none→D≠C→Spare cx act env g' s' stE D→Spare cx act env g' s' stE C→(∃ vs n,s'.heap.get? D=some (LstO vs n)∧Rels G.prog G.w g' vs xs)→s'.heap.isNs C=true→
      compPost (model G.prog G.w) A E use Q (.ref D) C (.ok .next) s'):
    wpAny (model G.prog G.w) A (comprehension (.ListComp elt [⟨.Name x px,iter,ifs,0⟩] scope pos) scope env cpos (newList []) false (eval iter env) use) Q E s:=by
  refine wpAny_comprehension_free rfl (hs env) hclos hkind hnames (hi O I e1 fun v g1 s1 T1 hv hlen=>hv T1.inv.gh fun o W hof it h0=> ?_)
  refine wpAny_newObj_type (wpAny_newFunctionEnv hcell (by intro y hy;simp at hy) (fun h₁ hns₁ hsb₁=> ?_) hkind)
  dsimp only at hns₁ hsb₁ ⊢
  have hd0:s1.heap.get? s1.heap.objs.size=none:=dead_end _ (Nat.le_refl _)
  generalize hH1:s1.heap.push o=H1 at*
  have hs1:H1.objs.size=s1.heap.objs.size+1:=by rw [← hH1,Heap.size_push]
  generalize hH2:H1.push { cls:= .type "list",dict:=none,data:= .seq ([]:List Value).toArray}=H2 at*
  have hs2:H2.objs.size=s1.heap.objs.size+2:=by rw [← hH2,Heap.size_push,hs1]
  have hkeep:∀ a ob,s1.heap.get? a=some ob→H2.get? a=some ob:=fun a ob e=>by rw [← hH2];exact Heap.get?_push_of_some _ (by rw [← hH1];exact Heap.get?_push_of_some _ e)
  have hk2:∀ a ob,H2.get? a=some ob→h₁.get? a=some ob:=fun a ob e=>by
    have hne:a≠H2.objs.size:=live_ne e (dead_end _ (Nat.le_refl _))
    exact (hsb₁.2 a hne).trans (Heap.get?_push_of_some _ e)
  have eI:h₁.get? s1.heap.objs.size=some o:=hk2 _ _ (by rw [← hH2];exact Heap.get?_push_of_some _ (by rw [← hH1];exact Heap.get?_push_size _ hof))
  have eD:h₁.get? H1.objs.size=some (LstO [] 0):=hk2 _ _ (by rw [← hH2];exact Heap.get?_push_size _ rfl)
  have dD:s1.heap.get? H1.objs.size=none:=dead_end _ (by lia)
  have dC:s1.heap.get? H2.objs.size=none:=dead_end _ (by lia)
  have hkk:∀ a ob,s1.heap.get? a=some ob→h₁.get? a=some ob:=fun a ob e=>hk2 a ob (hkeep a ob e)
  have hgh:g1.inH h₁:=fun a ob e=>hkk a ob (T1.inv.gh a ob e)
  have hW:W 0 h₁:=it.frame h0 (.refl _) hgh (eI.trans (by rw [← hH1];exact (Heap.get?_push_size _ hof).symm))
  obtain ⟨Oc,act',hE,Ic,hsp,hcl⟩:=ho g1 s1 T1 { newEnv scope H2.objs.size env.globals cl env.qual none .none (some env) builtinsNs with scope:=relabel scope env} { s1 with heap:=h₁,toks:=s1.toks+([]:List (Str×Value)).length} rfl rfl rfl rfl dC (nsMap_of hns₁).1 hkk rfl rfl
  have loop:codeAny (model G.prog G.w) A (.compLoop (.ListComp elt [⟨.Name x px,iter,ifs,0⟩] scope pos) 0 (.ref s1.heap.objs.size) (.ref H1.objs.size) { newEnv scope H2.objs.size env.globals cl env.qual none .none (some env) builtinsNs with scope:=relabel scope env})
      (compPost (model G.prog G.w) A E use Q (.ref H1.objs.size) H2.objs.size) { s1 with heap:=h₁,toks:=s1.toks+([]:List (Str×Value)).length}:=by
    refine compRun Oc Ic hS ht he it hW (hsp _ hd0 ⟨_,eI⟩ (show _≠H2.objs.size from Nat.ne_of_lt (by lia))) (hsp _ dD ⟨_,eD⟩ (show _≠H2.objs.size from Nat.ne_of_lt (by lia))) (Nat.ne_of_lt (by lia)) eD hlen hf fun g' s' J SD hc=> ?_
    refine x02 (hcl g' s' J) ?_;intro T2 hsp2
    exact hend _ _ g' s' (T1.trans T2) (T1.ext.alive _ dD) (T1.ext.alive _ dC) (Nat.ne_of_lt (by lia)) (hsp2 _ (.inl SD)) (hsp2 _ (.inr rfl)) hc J.locN
  exact codeAny_compStart_list loop (it.self hW loop)
structure CompOk (cx cxc:Cx) (scope:Scope) (x:Str):Prop where
  sc:∀ env:Env,env.scope=cx.sc→relabel scope env=cxc.sc
  kind:scope.kind= .function
  pl:cxc.places=[.loc x]
  obj:cxc.obj=none
  own:cxc.own=false
  nocell:∀ y∈scope.names,y.2≠ .cell
  nofree:∀ y∈scope.names,y.2≠ .free
  hnames:∀ y∈scope.names,y.2= .local→scope.names.lookup y.1=some .local
theorem compOpenA {A:Around} {env:Env} {act:Act} {g1:Gh} {s1:Shared} {st1 cstE:St} {scope:Scope} {x:Str} (O:Ok N cx A env) (C:CompOk cx cxc scope x) (I:Inv G cx act env g1 s1 st1) (hk:cxc.sc.kind= .function):
    CompOpen G N cx cxc A act env scope [] g1 s1 st1 [.unset] cstE st1:=by
  intro cenv s4 h1 h2 h3 h4 h5 h6 h7 h8 h9
  have gh4:g1.inH s4.heap:=fun a o e=>h7 a o (I.gh a o e)
  have hno:∀ {i:Nat} {l:List V} {c:St},c=[Slot.unset]→c[i]? =some (.own l)→False:=fun {i l c} e h=>by
    subst e
    induction i using Nat.casesAuxOn <;> simp at h
  have J0:Inv G cxc ⟨g1,s1.heap,fun _=>False,s1.gens,s1.os,0,0⟩ cenv g1 s4 [.unset]:=
    ⟨h8,h9,I.gBg,⟨.refl _,gh4,fun a o e _=>h7 a o e,fun _ _ _ e _=>e,dead_of_keep h7⟩,h5,Gh.fresh I.gh h5,h6,by rw [C.pl];rfl,(fun n hn=>by rw [C.pl] at hn;simp at hn),
      (fun i p sl hp hs=>by
        induction sl using Slot.casesOn with
        | unset=>trivial
        | val d=>induction i using Nat.casesAuxOn <;> simp at hs
        | own l=>exact (hno rfl hs).elim),
      fun i j p q l l' _ _ _ hl _=>(hno rfl hl).elim,(fun p b hp=>by rw [C.obj] at hp;exact noneE hp),(fun _ n hn=>by rw [C.pl] at hn;simp at hn),(fun e=>by rw [C.own] at e;exact ftE e)⟩
  refine ⟨⟨h1.trans (C.sc env O.sc),hk,h3.trans O.glob,h4.trans O.bi,O.handled,O.depth,O.units,by rw [C.pl];simp,(fun p b hp=>by rw [C.obj] at hp;exact noneE hp),by rw [h2];exact .nil⟩,_,rfl,J0,fun d hd hl hne=> ?_,fun g' s' J=> ?_⟩
  · refine ⟨hl,Gh.fresh I.gh hd,fun h=> ?_,hne,fun n c hn _=> ?_,hd⟩
    · rcases h with ⟨h,_⟩ | ⟨i,p,l,_,hl,_⟩
      · rw [C.obj] at h;exact ftE h
      · exact hno rfl hl
    · rcases hn with hn | ⟨b,hn⟩
      · rw [C.pl] at hn;simp at hn
      · rw [C.obj] at hn;exact noneE hn
  · have X:Ext g1 s1.heap g' s'.heap:=J.ext
    have T2:=I.step X J.gens J.os
    refine ⟨T2,fun d hd=> ?_⟩
    have key:(∃ o,s'.heap.get? d=some o)∧g' d=none∧s1.heap.get? d=none:=by
      rcases hd with S | rfl
      · exact ⟨S.live,S.gh,S.ab⟩
      · refine x32 (Heap.Ns.of_isNs J.locN) ?_;intro o _ _ e _
        exact ⟨⟨o,e⟩,J.locG,h5⟩
    refine x03 key ?_;(try clear key);intro k1 k2 k3
    refine ⟨k1,k2,fun h=> ?_,?_,fun n c hn e=> ?_,I.ext.alive _ k3⟩
    · have:Touch cx act env s1 st1 d:=h.imp id fun ⟨i,p,l,hp,hl,e⟩=>⟨i,p,l,hp,hl,by rw [← e];exact (I.fetch_keep X.hk (List.mem_of_getElem? hp)).symm⟩
      refine x11 (this.live I) ?_;intro o e
      rw [k3] at e;exact noneE e
    · refine x11 I.locLive ?_;intro o e
      exact (live_ne e k3).symm
    · refine x22 (I.cellsLt hn e) ?_;intro v o q _
      exact live_ne q k3
theorem SemL.ofCore {pos cpos:Pos} {elt iter:Expr} {x:Str} {px:Pos} {ifs:List Expr} {scope:Scope} {A:Around} {env:Env} {act:Act} {g:Gh} {s:Shared} {st stE:St} {xs:List V} {Q E:Value→Shared→Prop}
    (hcore:(∀ D C g' s',Step G cx act env g s st g' s' stE→s.heap.get? D=none→s.heap.get? C=none→D≠C→Spare cx act env g' s' stE D→Spare cx act env g' s' stE C→(∃ vs n,s'.heap.get? D=some (LstO vs n)∧Rels G.prog G.w g' vs xs)→s'.heap.isNs C=true→
      compPost (model G.prog G.w) A E none Q (.ref D) C (.ok .next) s')→wpAny (model G.prog G.w) A (comprehension (.ListComp elt [⟨.Name x px,iter,ifs,0⟩] scope pos) scope env cpos (newList []) false (eval iter env) none) Q E s)
    (h:∀ a g' s',NewL G cx act env g s st a xs g' s' stE→Q (.ref a) s'):
    wpAny (model G.prog G.w) A (comprehension (.ListComp elt [⟨.Name x px,iter,ifs,0⟩] scope pos) scope env cpos (newList []) false (eval iter env) none) Q E s:=by
  refine hcore fun D C g' s' T hD hC hne SD SC hc hN=>⟨_,Heap.Ns.of_isNs hN,fun h' hs'=> ?_⟩
  refine x22 hc ?_;(try clear hc);intro vs n e r
  have e':h'.get? D=some (LstO vs n):=(hs'.2 D hne).trans e
  have P:=T.poke SC hC hs'.extBut s'.toks
  exact h D g' _ (NewL.of P.1 (Spare.poke T.inv SC hs'.extBut s'.toks SD ⟨_,e'⟩) hD e' r)
theorem SemL.comp {elt iter:Expr} {x:Str} {px:Pos} {ifs:List Expr} {scope:Scope} {pos:Pos} {fit:LF} {fs:List TF} {f:EF} (C:CompOk cx cxc scope x) (hk:cxc.sc.kind= .function) (hi:SemI G N cx iter fit) (hS:Stores G N cxc 0 x)
    (ht:SemTs G N cxc ifs fs) (he:SemE G N cxc elt f) (hs:∀ env x,foldedSetIterable iter env x=pure x):SemL G N cx (.ListComp elt [⟨.Name x px,iter,ifs,0⟩] scope pos) (lCompA fit fs f):=by
  intro A env act g s st l st' Q E O I hf h
  refine bind2 hf ?_;clear hf;intro ds st1 e1 hf
  refine bind2 hf ?_;clear hf;intro xs cst e3 hf
  dsimp only at hf
  split at hf
  · induction hf using pairE
    rw [eval_ListComp]
    exact SemL.ofCore (fun hend=>compCore O I hi e1 hS ht he e3 hs (closureFor_none C.nofree) C.kind C.hnames C.nocell (fun g1 s1 T1=>compOpenA O C T1.inv hk) hend) h
  · exact noneE hf
theorem usedCore {elt iter:Expr} {x y:Str} {px py:Pos} {ifs:List Expr} {scope:Scope} {pos spos:Pos} {A:Around} {env:Env} {Q:Flow→Shared→Prop} {E:Value→Shared→Prop} {s:Shared} (hsw:swapsWith (.ListComp elt [⟨.Name x px,iter,ifs,0⟩] scope pos) (some (.Name y py)) spos.line env=pure true)
    (h:wpAny (model G.prog G.w) A (comprehension (.ListComp elt [⟨.Name x px,iter,ifs,0⟩] scope pos) scope env iter.pos (newList []) false (eval iter env) (some (assign (.Name y py) env))) (fun _ s'=>Q .next s') E s):
    wpAny (model G.prog G.w) A (exec (.Assign [.Name y py] (.ListComp elt [⟨.Name x px,iter,ifs,0⟩] scope pos) spos) env) Q E s:=by
  rw [exec_Assign_Name_used _ _ _ _ hsw]
  refine wpAny_bind (wpAny_standAt (wpAny_bind ?_))
  show wpAny _ A (do let _←comprehension (.ListComp elt [⟨.Name x px,iter,ifs,0⟩] scope pos) scope env iter.pos (newList []) false (eval iter env) (some (assign (.Name y py) env))) _ _ s
  exact wpAny_bind (wpAny_mono h (fun _ s' hq=>wpAny_pure (wpAny_pure hq)) fun _ _ e=>e)
theorem usedEnd {A:Around} {env:Env} {act:Act} {g g':Gh} {s s':Shared} {st stE:St} {xs:List V} {y:Str} {py:Pos} {i:Nat} {D C:Addr} {Q:Flow→Shared→Prop} {E:Value→Shared→Prop} (O:Ok N cx A env) (hSy:Stores G N cx i y) (T:Step G cx act env g s st g' s' stE) (hD:s.heap.get? D=none) (hC:s.heap.get? C=none) (hne:D≠C) (SD:Spare cx act env g' s' stE D) (SC:Spare cx act env g' s' stE C)
    (hc:∃ vs n,s'.heap.get? D=some (LstO vs n)∧Rels G.prog G.w g' vs xs) (hN:s'.heap.isNs C=true) (b:Bool)
    (h:∀ g' s',SStep G cx act env g s st g' s' (stE.set i (if b then .own xs else .val (.lst xs)))→Q .next s'):
    compPost (model G.prog G.w) A E (some (assign (.Name y py) env)) (fun _ s'=>Q .next s') (.ref D) C (.ok .next) s':=by
  refine x22 hc ?_;(try clear hc);intro vs n e r
  refine PyProof.Rows.assign_Name ?_
  have fin:∀ {g2:Gh} {s2:Shared} {st2:St},SStep G cx act env g s st g2 s2 st2→Spare cx act env g2 s2 st2 C→s2.heap.get? C=s'.heap.get? C→(∀ g3 s3,SStep G cx act env g s st g3 s3 st2→Q .next s3)→
      ∃ m,s2.heap.Ns C m∧∀ h',Heap.SameBut C s2.heap h'→Q .next { s2 with heap:=h'}:=fun {g2 s2 st2} S2 SC2 k q=>by
    have hN2:s2.heap.isNs C=true:=by
      refine x11 SC.live ?_;intro o ho
      exact (nsMap_keep hN fun ob eb=>k.trans eb).1
    exact ⟨_,Heap.Ns.of_isNs hN2,fun h' hs'=>q g2 _ (S2.poke SC2 hC hs'.extBut s2.toks)⟩
  induction b using Bool.casesOn with
  | true=>
    refine hSy.own O T.inv ⟨⟨vs,n,e,r⟩,SD⟩ fun s2 Y=> ?_
    obtain ⟨SC2,kC⟩:=Y.sp C SC fun l hl e=>by cases e;exact hne rfl
    exact fin (Y.ssO T.ss hD) SC2 kC fun g3 s3 S3=>h g3 s3 S3
  | false=>
    have X:=NewL.of T SD hD e r
    refine x22 X.at_ ?_;intro vs' n' e' _
    have T2:=T.freeze SD hD e
    have rr:Rel G.prog G.w (g'.put D (LstO vs n)) (.ref D) (.lst xs):= .lst (Gh.put_self ..) (r.le (Gh.le_put SD.gh))
    have SC2:Spare cx act env (g'.put D (LstO vs n)) s' stE C:=⟨SC.live,by rw [Gh.put_ne (Ne.symm hne)];exact SC.gh,SC.nt,SC.nL,SC.nC,SC.ab⟩
    refine hSy.val O T2.inv rr fun s2 S2=> ?_
    refine x02 (S2.sp C SC2) ?_;intro SC3 kC
    exact fin (T2.ss.trans S2) SC3 kC fun g3 s3 S3=>h g3 s3 S3
theorem SemS.asgComp {elt iter:Expr} {x y:Str} {px py:Pos} {ifs:List Expr} {scope:Scope} {pos spos:Pos} {fit:LF} {fs:List TF} {f:EF} {i:Nat} (C:CompOk cx cxc scope x) (hk:cxc.sc.kind= .function) (hi:SemI G N cx iter fit) (hS:Stores G N cxc 0 x)
    (ht:SemTs G N cxc ifs fs) (he:SemE G N cxc elt f) (hs:∀ env x,foldedSetIterable iter env x=pure x) (hSy:Stores G N cx i y) (hsw:∀ env:Env,env.scope=cx.sc→swapsWith (.ListComp elt [⟨.Name x px,iter,ifs,0⟩] scope pos) (some (.Name y py)) spos.line env=pure true):
    SemS G N cx (.Assign [.Name y py] (.ListComp elt [⟨.Name x px,iter,ifs,0⟩] scope pos) spos) (sAsg i (eL (lCompA fit fs f))):=by
  intro A env act g s st b st' Q E O I hf h
  refine bind2 hf ?_;clear hf;intro v st1' e0 hf
  cases hf using pairE
  refine bind2 e0 ?_;intro l st1 e0 hf
  cases hf using pairE
  refine bind2 e0 ?_;intro ds st1' e1 hf
  refine bind2 hf ?_;clear hf;intro xs cst e3 hf
  dsimp only at hf
  split at hf
  · induction hf using pairE
    exact usedCore (hsw env O.sc) (compCore O I hi e1 hS ht he e3 hs (closureFor_none C.nofree) C.kind C.hnames C.nocell (fun g1 s1 T1=>compOpenA O C T1.inv hk)
      fun D Ca g' s' T hD hC hne SD SC hc hN=>usedEnd O hSy T hD hC hne SD SC hc hN false fun g3 s3 S3=>h _ g3 s3 S3 trivial)
  · exact noneE hf
theorem SemS.asgCompL {elt iter:Expr} {x y:Str} {px py:Pos} {ifs:List Expr} {scope:Scope} {pos spos:Pos} {fit:LF} {fs:List TF} {f:EF} {i:Nat} (C:CompOk cx cxc scope x) (hk:cxc.sc.kind= .function) (hi:SemI G N cx iter fit) (hS:Stores G N cxc 0 x)
    (ht:SemTs G N cxc ifs fs) (he:SemE G N cxc elt f) (hs:∀ env x,foldedSetIterable iter env x=pure x) (hSy:Stores G N cx i y) (hsw:∀ env:Env,env.scope=cx.sc→swapsWith (.ListComp elt [⟨.Name x px,iter,ifs,0⟩] scope pos) (some (.Name y py)) spos.line env=pure true):
    SemS G N cx (.Assign [.Name y py] (.ListComp elt [⟨.Name x px,iter,ifs,0⟩] scope pos) spos) (sAsgL i (lCompA fit fs f)):=by
  intro A env act g s st b st' Q E O I hf h
  refine bind2 hf ?_;clear hf;intro l st1 e0 hf
  cases hf using pairE
  refine bind2 e0 ?_;intro ds st1' e1 hf
  refine bind2 hf ?_;clear hf;intro xs cst e3 hf
  dsimp only at hf
  split at hf
  · induction hf using pairE
    exact usedCore (hsw env O.sc) (compCore O I hi e1 hS ht he e3 hs (closureFor_none C.nofree) C.kind C.hnames C.nocell (fun g1 s1 T1=>compOpenA O C T1.inv hk)
      fun D Ca g' s' T hD hC hne SD SC hc hN=>usedEnd O hSy T hD hC hne SD SC hc hN true fun g3 s3 S3=>h _ g3 s3 S3 trivial)
  · exact noneE hf
end
end Mine
end
section
open PySem PySem.Calls PyProof.Rows PySem.W
set_option maxRecDepth 10000
namespace Mine
section
variable {G:Top0} {N:Nat} {cx cxc:Cx}
noncomputable def freesOf (scope:Scope):List Str:=(scope.names.filter fun x=>x.2== .free).map (·.1)
noncomputable def cellsOf (env:Env) (ns:List Str):List (Str×Addr):=(ns.map fun n=>(n,(env.cells.lookup n).getD 0)).reverse
theorem closure_loop {env:Env}:∀ (names:List (Str×NameKind)) (acc:List (Str×Addr)),(∀ n∈(names.filter fun x=>x.2==NameKind.free).map (·.1),∃ c,env.cells.lookup n=some c)→
    (forIn names acc fun (x:Str×NameKind) (cs:List (Str×Addr))=>(match x with | (name,kind)=>if kind== .free then (do let c←cellOf env name;pure (ForInStep.yield ((name,c)::cs))) else pure (ForInStep.yield cs):Sem (ForInStep (List (Str×Addr)))))=
      (pure (((names.filter fun x=>x.2==NameKind.free).map fun x=>(x.1,(env.cells.lookup x.1).getD 0)).reverse++acc):Sem _)
  | [],acc,_=>by simp
  | (n,k)::r,acc,h=>by
    rw [List.forIn_cons]
    by_cases hk:(k==NameKind.free)=true
    · refine x11 (h n (by simp [List.filter_cons,hk])) ?_;intro c hc
      have hco:cellOf env n=pure c:=by unfold cellOf;rw [hc]
      simp only [hk,if_true,hco,pure_bind]
      rw [closure_loop r ((n,c)::acc) fun m hm=>h m (by simp only [List.filter_cons,hk,if_true,List.map_cons];exact List.mem_cons_of_mem _ hm)]
      simp [List.filter_cons,hk,hc]
    · simp only [hk,Bool.false_eq_true,if_false,pure_bind]
      rw [closure_loop r acc fun m hm=>h m (by simp only [List.filter_cons,hk,if_false];exact hm)]
      simp [List.filter_cons,hk]
theorem closureFor_some {env:Env} {scope:Scope} (h:∀ n∈freesOf scope,∃ c,env.cells.lookup n=some c):closureFor scope env=pure (cellsOf env (freesOf scope)):=by
  unfold closureFor
  have:=closure_loop (env:=env) scope.names [] h
  simp only [List.append_nil] at this
  unfold cellsOf freesOf
  rw [List.map_map]
  exact (bind_pure _).trans this
theorem lookup_of_mem {l:List (Str×Addr)} (hn:(l.map (·.1)).Nodup) {n:Str} {c:Addr} (h:(n,c)∈l):l.lookup n=some c:=by
  induction l with
  | nil=>cases h
  | cons x r ih=>
    obtain ⟨m,d⟩:=x
    simp only [List.map_cons,List.nodup_cons] at hn
    rcases List.mem_cons.mp h with h2 | h2
    · cases h2;simp [List.lookup_cons]
    · rw [List.lookup_cons]
      have:(n==m)=false:=by
        rw [beq_eq_false_iff_ne];rintro rfl
        exact hn.1 (List.mem_map_of_mem (f:=(·.1)) h2)
      rw [this]
      exact ih hn.2 h2
theorem cellsOf_lookup {env:Env} {ns:List Str} (hn:ns.Nodup) {n:Str} {c:Addr} (hm:n∈ns) (hc:env.cells.lookup n=some c):(cellsOf env ns).lookup n=some c:=by
  refine lookup_of_mem ?_ ?_
  · unfold cellsOf
    rw [List.map_reverse,List.map_map]
    rw [show ((fun x:Str×Addr=>x.1) ∘ fun n=>(n,(env.cells.lookup n).getD 0))=id from rfl,List.map_id]
    unfold List.Nodup at hn ⊢
    rw [List.pairwise_reverse]
    exact hn.imp Ne.symm
  · unfold cellsOf
    rw [List.mem_reverse,List.mem_map]
    exact ⟨n,hm,by rw [hc];rfl⟩
theorem freeS_get {st:St}:∀ {is:List Nat} {fr:List Slot},freeS st is=some fr→fr.length=is.length∧∀ (j:Nat) (sl:Slot),fr[j]? =some sl→∃ (i:Nat) (d:V),is[j]? =some i∧sl=Slot.val d∧st[i]? =some (Slot.val d)
  | [],fr,h=>by induction h using someE;exact ⟨rfl,fun j sl h=>by simp at h⟩
  | i::is,fr,h=>by
    unfold freeS at h
    split at h
    · rename_i d hd
      refine x12 (Option.map_eq_some_iff.mp h) ?_;intro r hr hq2;subst hq2
      refine x02 (freeS_get hr) ?_;intro h1 h2
      refine ⟨by simp [h1],fun j sl hj=> ?_⟩
      induction j using Nat.casesAuxOn with
      | zero=>induction hj using someE;exact ⟨i,d,rfl,rfl,hd⟩
      | succ j=>
        refine x23 (h2 j sl (by simpa using hj)) ?_;intro i' d' e1 e2 e3
        exact ⟨i',d',by simpa using e1,e2,e3⟩
    · exact noneE h
structure CompOkB (cx cxc:Cx) (scope:Scope) (x dk:Str) (pre:List Loc) (fn:List Str) (b:Bool) (fr:List Str) (fi:List Nat):Prop where
  sc:∀ env:Env,env.scope=cx.sc→relabel scope env=cxc.sc
  kind:scope.kind= .function
  C:CxObj cx pre fn (.cell dk) b
  Cc:CxObj cxc (.loc x::fr.map .cell) fn (.cell dk) b
  np:Loc.cell dk ∉ cxc.places
  nodup:cxc.places.Nodup
  own:cxc.own=false
  nocell:∀ y∈scope.names,y.2≠ .cell
  hnames:∀ y∈scope.names,y.2= .local→scope.names.lookup y.1=some .local
  frs:freesOf scope=freesOf scope∧(freesOf scope).Nodup∧dk∈freesOf scope∧(∀ n∈fr,n∈freesOf scope)∧∀ n∈freesOf scope,n=dk∨n∈fr
  fi:fi.length=fr.length∧∀ (j:Nat) (n:Str) (i:Nat),fr[j]? =some n→fi[j]? =some i→cx.places[i]? =some (.cell n)
section
variable {A:Around} {env:Env} {act:Act} {g1:Gh} {s1:Shared} {st1:St} {scope:Scope} {x dk:Str} {pre:List Loc} {fn:List Str} {b:Bool} {fr:List Str} {fi:List Nat} {frs:List Slot}
theorem CompOkB.cells (C:CompOkB cx cxc scope x dk pre fn b fr fi) (I:Inv G cx act env g1 s1 st1):∀ n,n=dk∨n∈fr→∃ c v,env.cells.lookup n=some c∧s1.heap.IsCell c v∧g1 c=none∧(cellsOf env (freesOf scope)).lookup n=some c:=by
  rintro n (rfl | hn)
  · refine x23 ((I.obj _ b C.C.obj).2.2.2 n rfl) ?_;intro c v e1 e2 e3
    exact ⟨c,v,e1,e2,e3,cellsOf_lookup C.frs.2.1 C.frs.2.2.1 e1⟩
  · refine x11 (List.mem_iff_getElem?.mp hn) ?_;intro j hj
    have hjl:j<fi.length:=by rw [C.fi.1];exact (List.getElem?_eq_some_iff.mp hj).1
    have hp:=C.fi.2 j n fi[j] hj (by simp [hjl])
    refine x23 (I.cell n (List.mem_of_getElem? hp)) ?_;intro c v e1 e2 e3
    exact ⟨c,v,e1,e2,e3,cellsOf_lookup C.frs.2.1 (C.frs.2.2.2.1 n hn) e1⟩
theorem CompOkB.clos (C:CompOkB cx cxc scope x dk pre fn b fr fi) (I:Inv G cx act env g1 s1 st1):closureFor scope env=pure (cellsOf env (freesOf scope)):=
  closureFor_some fun n hn=>by
    refine x22 (C.cells I n (C.frs.2.2.2.2 n hn)) ?_;intro c v e _
    exact ⟨c,e⟩
theorem compOpenB {cstE:St} (O:Ok N cx A env) (C:CompOkB cx cxc scope x dk pre fn b fr fi) (I:Inv G cx act env g1 s1 st1) (hk:cxc.sc.kind= .function) (hfr:freeS st1 fi=some frs):
    CompOpen G N cx cxc A act env scope (cellsOf env (freesOf scope)) g1 s1 st1 ([.unset]++frs++st1.drop pre.length) cstE (st1.take pre.length++cstE.drop (1+fr.length)):=by
  intro cenv s4 h1 h2 h3 h4 h5 h6 h7 h8 h9
  refine x02 (freeS_get hfr) ?_;intro hfl hfg
  have gh4:g1.inH s4.heap:=fun a o e=>h7 a o (I.gh a o e)
  have o0:=I.toObj C.C
  have oi:=o0.into (s:=s1)
  obtain ⟨⟨d1,d2,d3,d4⟩,d5,d6,d7⟩:=I.obj _ b C.C.obj
  have kD:=nsMap_keep d1.1 fun o q=>h7 _ o q
  have hcl:∀ n,n=dk∨n∈fr→fetch s4.heap cenv act.dx (.cell n)=fetch s1.heap env act.dx (.cell n):=fun n hn=>by
    refine x24 (C.cells I n hn) ?_;intro c v e1 e2 e3 e4
    show (match cenv.cells.lookup n with | some c=>cellVal s4.heap c | none=>none)=(match env.cells.lookup n with | some c=>cellVal s1.heap c | none=>none)
    rw [h2,e4,e1]
    exact (cellVal_of (e2.keeps h7)).trans (cellVal_of e2).symm
  have plen:(Loc.loc x::fr.map Loc.cell).length=1+fr.length:=by simp;lia
  have hpl:∀ {i:Nat} {q:Loc},cxc.places[i]? =some q→(i=0∧q= .loc x)∨(∃ j n,i=j+1∧fr[j]? =some n∧q= .cell n)∨(∃ j n,i=1+fr.length+j∧fn[j]? =some n∧q= .fld n):=fun {i q} hq=>by
    rw [C.Cc.pl] at hq
    by_cases hi:i<1+fr.length
    · rw [List.getElem?_append_left (by rw [plen];exact hi)] at hq
      induction i using Nat.casesAuxOn with
      | zero=>induction hq using someE;exact .inl ⟨rfl,rfl⟩
      | succ j=>
        have hq:(fr.map Loc.cell)[j]? =some q:=by simpa using hq
        rw [List.getElem?_map] at hq
        refine x12 (Option.map_eq_some_iff.mp hq) ?_;intro n hn hq2;subst hq2
        exact .inr (.inl ⟨j,n,rfl,hn,rfl⟩)
    · rw [List.getElem?_append_right (by rw [plen];lia),plen,List.getElem?_map] at hq
      refine x12 (Option.map_eq_some_iff.mp hq) ?_;intro n hn hq2;subst hq2
      exact .inr (.inr ⟨i - (1+fr.length),n,by lia,hn,rfl⟩)
  have sl0:∀ {i:Nat} {sl:Slot},([.unset]++frs++st1.drop pre.length)[i]? =some sl→(i=0∧sl= .unset)∨(∃ j,i=j+1∧frs[j]? =some sl)∨(∃ j,i=1+fr.length+j∧(st1.drop pre.length)[j]? =some sl):=fun {i sl} h=>by
    have hfl':frs.length=fr.length:=hfl.trans C.fi.1
    by_cases hi:i<1+fr.length
    · rw [List.getElem?_append_left (by simp;lia)] at h
      induction i using Nat.casesAuxOn with
      | zero=>induction h using someE;exact .inl ⟨rfl,rfl⟩
      | succ j=>exact .inr (.inl ⟨j,rfl,by simpa using h⟩)
    · rw [List.getElem?_append_right (by simp;lia)] at h
      refine .inr (.inr ⟨i - (1+fr.length),by lia,?_⟩)
      have:([Slot.unset]++frs).length=1+fr.length:=by simp;lia
      rw [this] at h
      exact h
  have J0:Inv G cxc (act.into fn g1 s1 (st1.drop pre.length)) cenv g1 s4 ([.unset]++frs++st1.drop pre.length):=by
    refine ⟨h8,h9,I.gBg,⟨.refl _,gh4,fun a o e _=>h7 a o e,fun _ _ _ e _=>e,dead_of_keep h7⟩,h5,Gh.fresh I.gh h5,h6,?_,fun n hn=> ?_,fun i q sl hq hs=> ?_,fun i j q q' l l' hij hq hq' hl hl'=> ?_,fun q b' hq=> ?_,fun hno=> ?_,fun e=> ?_⟩
    · have:=o0.len
      rw [C.Cc.pl]
      simp only [List.length_append,List.length_cons,List.length_nil,List.length_map,hfl,C.fi.1,this]
      lia
    · refine x11 (List.mem_iff_getElem?.mp hn) ?_;intro i hi
      rcases hpl hi with ⟨_,q⟩ | ⟨j,m,_,hm,q⟩ | ⟨j,m,_,_,q⟩
      · cases q
      · cases q
        refine x24 (C.cells I n (.inr (List.mem_of_getElem? hm))) ?_;intro c v e1 e2 e3 e4
        exact ⟨c,v,by rw [h2];exact e4,e2.keeps h7,e3⟩
      · cases q
    · rcases sl0 hs with ⟨_,rfl⟩ | ⟨j,rfl,hj⟩ | ⟨j,rfl,hj⟩
      · trivial
      · refine x23 (hfg j sl hj) ?_;intro i' d e1 hq3 e3;subst hq3
        rcases hpl hq with ⟨h0,_⟩ | ⟨j',n,h0,hn,rfl⟩ | ⟨j',n,h0,hn,rfl⟩
        · lia
        · have:j=j':=by lia
          subst this
          have hp:=C.fi.2 j n i' hn e1
          refine x12 (I.slots i' _ _ hp e3) ?_;intro v hv hr
          exact ⟨v,(hcl n (.inr (List.mem_of_getElem? hn))).trans hv,hr⟩
        · have:=(List.getElem?_eq_some_iff.mp hj).1
          rw [hfl,C.fi.1] at this
          lia
      · rcases hpl hq with ⟨h0,_⟩ | ⟨j',n,h0,hn,rfl⟩ | ⟨j',n,h0,hn,rfl⟩
        · lia
        · have:=(List.getElem?_eq_some_iff.mp hn).1
          lia
        · have:j=j':=by lia
          subst this
          show SlotOk G _ g1 s4.heap (s4.heap.nsMap act.dx n) sl
          rw [kD.2]
          have:=oi.slots j n sl hn hj
          induction sl using Slot.casesOn with
          | unset=>trivial
          | val d=>exact this
          | own l=>
            refine x35 this ?_;(try clear this);intro a' vs' k' y1 y2 y3 y4 y5
            exact ⟨a',vs',k',y1,h7 _ _ y2,y3,y4,y5⟩
    · have low:∀ {i:Nat} {q:Loc} {l:List V},cxc.places[i]? =some q→([.unset]++frs++st1.drop pre.length)[i]? =some (.own l)→∃ j n,i=1+fr.length+j∧fn[j]? =some n∧q= .fld n∧(st1.drop pre.length)[j]? =some (.own l):=fun {i q l} hq hl=>by
        rcases sl0 hl with ⟨_,e⟩ | ⟨j,rfl,hj⟩ | ⟨j,rfl,hj⟩
        · cases e
        · refine x23 (hfg j _ hj) ?_;intro _ _ _ e _
          cases e
        · rcases hpl hq with ⟨h0,_⟩ | ⟨j',n,h0,hn,rfl⟩ | ⟨j',n,h0,hn,rfl⟩
          · lia
          · have:=(List.getElem?_eq_some_iff.mp hn).1
            lia
          · have:j=j':=by lia
            subst this
            exact ⟨j,n,rfl,hn,rfl,hj⟩
      refine x24 (low hq hl) ?_;intro j1 n1 hq2 a1 hq4 a2;subst hq2;subst hq4
      refine x24 (low hq' hl') ?_;intro j2 n2 hq2 b1 hq4 b2;subst hq2;subst hq4
      show s4.heap.nsMap act.dx n1≠s4.heap.nsMap act.dx n2
      rw [kD.2]
      exact o0.apart j1 j2 n1 n2 l l' (by lia) a1 b1 a2 b2
    · have:q= .cell dk∧b'=b:=by have:=C.Cc.obj;rw [this] at hq;induction hq using pairE;exact ⟨rfl,rfl⟩
      refine x02 this ?_;(try clear this);intro hq0 hq1;subst hq0;subst hq1
      refine x32 (Heap.Ns.of_isNs d1.1) ?_;intro oD _ _ eD _
      refine ⟨⟨d1.keep fun o q=>h7 _ o q,d2,live_ne eD h5,.inr (.inl rfl)⟩,(hcl dk (.inl rfl)).trans d5,d6,fun n hn=> ?_⟩
      cases hn
      refine x24 (C.cells I dk (.inl rfl)) ?_;intro c v e1 e2 e3 e4
      exact ⟨c,v,by rw [h2];exact e4,e2.keeps h7,e3⟩
    · rw [C.Cc.obj] at hno;exact noneE' hno
    · rw [C.own] at e;exact ftE e
  have hap:cenv.cells.Pairwise fun x y=>x.2≠y.2:=by
    rw [h2]
    unfold cellsOf
    rw [List.pairwise_reverse,List.pairwise_map]
    refine List.Pairwise.imp_of_mem ?_ C.frs.2.1
    intro n m hn hm hne e
    refine x22 (C.cells I n (C.frs.2.2.2.2 n hn)) ?_;intro c _ e1 _
    refine x22 (C.cells I m (C.frs.2.2.2.2 m hm)) ?_;intro c' _ e2 _
    simp only [e1,e2,Option.getD_some] at e
    subst e
    exact hne (name_of O.apartC e1 e2)
  refine ⟨⟨h1.trans (C.sc env O.sc),hk,h3.trans O.glob,h4.trans O.bi,O.handled,O.depth,O.units,C.nodup,(fun p b hp=>by rw [C.Cc.obj] at hp;induction hp using pairE;exact C.np),hap⟩,_,rfl,J0,fun d hd hl hne=> ?_,fun g' s' J=> ?_⟩
  · refine ⟨hl,Gh.fresh I.gh hd,fun h=> ?_,hne,fun n c hn e=> ?_,hd⟩
    · rcases h with ⟨_,e⟩ | ⟨i,q,l,hq,hl,e⟩
      · refine x32 (Heap.Ns.of_isNs d1.1) ?_;intro oD _ _ eD _
        exact live_ne eD hd e.symm
      · refine x35 (J0.slots i q _ hq hl) ?_;intro a vs k y1 y2 y3 y4 y5
        rw [e] at y1;cases y1
        rcases sl0 hl with ⟨_,e⟩ | ⟨j,rfl,hj⟩ | ⟨j,rfl,hj⟩
        · cases e
        · refine x23 (hfg j _ hj) ?_;intro _ _ _ e _
          cases e
        · rcases hpl hq with ⟨h0,_⟩ | ⟨j',n,h0,hn,rfl⟩ | ⟨j',n,h0,hn,rfl⟩
          · lia
          · have:=(List.getElem?_eq_some_iff.mp hn).1
            lia
          · have:j=j':=by lia
            subst this
            refine x33 (o0.slots j n _ hn hj) ?_;intro a' vs' k' z1 z2 _
            have e:s4.heap.nsMap act.dx n=some (.ref d):=e
            rw [kD.2,z1] at e
            cases e
            rw [hd] at z2;exact noneE z2
    · have hn':n=dk∨n∈fr:=by
        rcases hn with hn | ⟨b',hn⟩
        · refine x11 (List.mem_iff_getElem?.mp hn) ?_;intro i hi
          rcases hpl hi with ⟨_,q⟩ | ⟨j,m,_,hm,q⟩ | ⟨j,m,_,_,q⟩
          · cases q
          · cases q;exact .inr (List.mem_of_getElem? hm)
          · cases q
        · rw [C.Cc.obj] at hn;cases hn;exact .inl rfl
      obtain ⟨c',v,e1,⟨o,e2,_⟩,e3,e4⟩:=C.cells I n hn'
      rw [h2,e4] at e
      induction e using someE
      exact live_ne e2 hd
  · have ob:=J.toObj C.Cc
    rw [plen] at ob
    have X:ExtW (OTf fn s1.heap act.dx (st1.drop pre.length)) g1 s1.heap g' s'.heap:=J.ext
    refine x02 (I.back C.C (O.objp _ _ C.C.obj) X J.gens J.os ob) ?_;intro T2 hT
    refine ⟨T2,fun d hd=> ?_⟩
    have key:(∃ o,s'.heap.get? d=some o)∧g' d=none∧s1.heap.get? d=none∧ ¬ OTf fn s'.heap act.dx (cstE.drop (1+fr.length)) d:=by
      rcases hd with S | rfl
      · refine ⟨S.live,S.gh,S.ab,fun h=> ?_⟩
        rcases h with rfl | ⟨i,n,l,a1,a2,a3⟩
        · exact S.nt (.inl ⟨by rw [C.Cc.obj];rfl,rfl⟩)
        · rw [List.getElem?_drop] at a2
          have:=C.Cc.at i
          rw [plen] at this
          exact S.nt (.inr ⟨_,.fld n,l,by rw [this,a1];rfl,a2,a3⟩)
      · refine x32 (Heap.Ns.of_isNs J.locN) ?_;intro o _ _ e _
        refine ⟨⟨o,e⟩,J.locG,h5,fun h=> ?_⟩
        rcases ob.ot_lst h with e | ⟨vs,n,e,_⟩
        · exact (J.obj _ b C.Cc.obj).1.2.2.1 e.symm
        · exact ns_ne_lst J.locN e rfl
    refine x04 key ?_;(try clear key);intro k1 k2 k3 k4
    refine ⟨k1,k2,fun h=> ?_,?_,fun n c hn e=> ?_,I.ext.alive _ k3⟩
    · rcases hT d h with ⟨o,e⟩ | h
      · rw [k3] at e;exact noneE e
      · exact k4 h
    · refine x11 I.locLive ?_;intro o e
      exact (live_ne e k3).symm
    · refine x22 (I.cellsLt hn e) ?_;intro v o q _
      exact live_ne q k3
end
theorem SemS.asgCompB {elt iter:Expr} {x y dk:Str} {px py:Pos} {ifs:List Expr} {scope:Scope} {pos spos:Pos} {fit:LF} {fs:List TF} {f:EF} {i:Nat} {pre:List Loc} {fn:List Str} {b:Bool} {fr:List Str} {fi:List Nat} (C:CompOkB cx cxc scope x dk pre fn b fr fi) (hk:cxc.sc.kind= .function) (hi:SemI G N cx iter fit) (hS:Stores G N cxc 0 x)
    (ht:SemTs G N cxc ifs fs) (he:SemE G N cxc elt f) (hs:∀ env x,foldedSetIterable iter env x=pure x) (hSy:Stores G N cx i y) (hsw:∀ env:Env,env.scope=cx.sc→swapsWith (.ListComp elt [⟨.Name x px,iter,ifs,0⟩] scope pos) (some (.Name y py)) spos.line env=pure true):
    SemS G N cx (.Assign [.Name y py] (.ListComp elt [⟨.Name x px,iter,ifs,0⟩] scope pos) spos) (sAsg i (eL (lComp pre.length 1 fi fit fs f))):=by
  intro A env act g s st b' st' Q E O I hf h
  refine bind2 hf ?_;clear hf;intro v st1' e0 hf
  cases hf using pairE
  refine bind2 e0 ?_;intro l st1 e0 hf
  cases hf using pairE
  refine bind2 e0 ?_;intro ds st1' e1 hf
  refine bind1 hf ?_;clear hf;intro frs e2 hf
  refine bind2 hf ?_;clear hf;intro xs cst e3 hf
  dsimp only at hf
  split at hf
  · cases (hf)
    have hfl:fi.length=fr.length:=C.fi.1
    have e3:compLoop [0] fs f ds ([.unset]++frs++st1'.drop pre.length)=some (l,cst):=e3
    have:=compCore (px:=px) (Q:=fun _ s'=>Q .next s') (E:=E) (pos:=pos) (cpos:=iter.pos) (use:=some (assign (.Name y py) env)) O I hi e1 hS ht he e3 hs (C.clos I) C.kind C.hnames C.nocell (fun g1 s1 T1=>compOpenB (cstE:=cst) O C T1.inv hk e2)
      fun D Ca g' s' T hD hC hne SD SC hc hN=>usedEnd O hSy T hD hC hne SD SC hc hN false fun g3 s3 S3=>h _ g3 s3 (by rw [hfl];exact S3) trivial
    exact usedCore (hsw env O.sc) this
  · exact noneE hf
end
end Mine
end
section
open PySem PySem.Calls PyProof.Rows PySem.W
set_option maxRecDepth 10000
namespace Mine
section
variable {G:Top0} {N:Nat} {cx cx0:Cx}
theorem SemB.toW {c:List Stmt} {f:SF} (h:SemB G N cx c f):SemW G N cx c f:=by
  intro A env act g s st b st' Q E O I e k
  exact h O I e fun fl g' s' SS hr=>k fl g' s' SS.inv.ext SS.inv.gens SS.inv.os hr
noncomputable def StoresG (G:Top0) (N:Nat) (cx:Cx) (i:Nat) (n:Str) (p:Loc):Prop:=∀ {A env act g s st v} {Q:Unit→Shared→Prop} {E:Value→Shared→Prop},Ok N cx A env→Inv G cx act env g s st→
  (∀ s',Inv G cx act env g s' (st.set i .unset)→(∀ a vs n,s.heap.get? a=some (LstO vs n)→s'.heap.get? a=some (LstO vs n))→(∀ d,Spare cx act env g s st d→Spare cx act env g s' (st.set i .unset) d∧s'.heap.get? d=s.heap.get? d)→fetch s'.heap env act.dx p=some v→Q () s')→
  wpAny (model G.prog G.w) A (storeName env n v) Q E s
theorem StoresG.loc {i:Nat} {n:Str} (hp:cx.places[i]? =some (.loc n)) (hk:cx.sc.names.lookup n=some .local):StoresG G N cx i n (.loc n):=by
  intro A env act g s st v Q E O I h
  exact I.storeLoc (sl:= .unset) O hp hk (fun _ _=>trivial) (fun l e=>by cases e) fun s' Y f=>h s' Y.inv Y.keepL (fun d S=>Y.sp d S fun l e=>by cases e) f
theorem StoresG.cell {i:Nat} {n:Str} (hp:cx.places[i]? =some (.cell n)) (hk:cx.sc.names.lookup n=some .cell) (ho:cx.own=true):StoresG G N cx i n (.cell n):=by
  intro A env act g s st v Q E O I h
  exact I.storeCell (sl:= .unset) O hp hk ho (fun _ _=>trivial) (fun l e=>by cases e) fun s' Y f=>h s' Y.inv Y.keepL (fun d S=>Y.sp d S fun l e=>by cases e) f
noncomputable def Act.with (act:Act) (dx ax:Addr):Act:={ act with dx:=dx,ax:=ax}
structure Adopt (cx0 cx:Cx) (pre:List Loc) (fn:List Str) (p:Loc) (b:Bool):Prop where
  pl0:cx0.places=pre++[p]
  C:CxObj cx pre fn p b
  sc:cx.sc=cx0.sc
  obj0:cx0.obj=none
  own:cx.own=cx0.own
  nd:cx.places.Nodup
  np:p ∉ cx.places
theorem last_unset {st:List Slot} (h:lastUnset st=true):st=st.dropLast++[.unset]∧st.set st.dropLast.length .unset=st:=by
  have e:st.getLast? =some .unset:=by
    unfold lastUnset at h
    split at h
    · assumption
    · exact ftE h
  have hne:st≠[]:=by rintro rfl;exact noneE e
  have h1:st=st.dropLast++[.unset]:=by
    have:=List.dropLast_concat_getLast hne
    rw [List.getLast?_eq_some_getLast hne] at e
    cases e':st.getLast hne <;> simp [e'] at e
    rw [e'] at this
    exact this.symm
  refine ⟨h1,?_⟩
  generalize st.dropLast=r at*
  rw [h1,List.set_append_right _ _ (Nat.le_refl _)]
  simp
noncomputable def NoOwn (st:List Slot):Prop:=∀ (i:Nat) (l:List V),st[i]? ≠some (Slot.own l)
theorem noOwn_of:∀ {st:List Slot},noOwn st=true→NoOwn st
  | [],_,i,l,e=>by simp at e
  | .own _::_,h,_,_,_=>by exact ftE h
  | .unset::r,h,i,l,e=>by
    induction i using Nat.casesAuxOn with
    | zero=>cases e
    | succ i=>exact noOwn_of (st:=r) h i l (by simpa using e)
  | .val d::r,h,i,l,e=>by
    induction i using Nat.casesAuxOn with
    | zero=>cases e
    | succ i=>exact noOwn_of (st:=r) h i l (by simpa using e)
theorem fetch_dx {h:Heap} {env:Env} {q:Loc} (hq:∀ n,q≠ .fld n) (d d':Addr):fetch h env d q=fetch h env d' q:=by
  cases q with
  | loc n=>rfl
  | cell n=>rfl
  | fld n=>exact absurd rfl (hq n)
theorem Inv.adopt {act:Act} {env:Env} {g:Gh} {s:Shared} {st fs:St} {pre:List Loc} {fn:List Str} {p:Loc} {b:Bool} {dx ax:Addr} (D:Adopt cx0 cx pre fn p b) (I:Inv G cx0 act env g s (st++[.unset])) (hf:fetch s.heap env act.dx p=some (.ref ax))
    (ob:ObjOk G (act.with dx ax) fn b g s.heap fs) (hno:NoOwn st) (hdl:dx≠env.locals):Inv G cx (act.with dx ax) env g s (st++fs):=by
  have hlen:st.length=pre.length:=by have:=I.len;rw [D.pl0] at this;simpa using this
  have h0:∀ {i:Nat} {q:Loc},i<pre.length→cx.places[i]? =some q→cx0.places[i]? =some q∧∀ n,q≠ .fld n:=fun {i q} hi hq=>by
    rw [D.C.lt hi] at hq
    refine ⟨by rw [D.pl0,List.getElem?_append_left hi];exact hq,fun n e=>D.C.pre n (e ▸ List.mem_of_getElem? hq)⟩
  have hpin:p∈cx0.places:=by rw [D.pl0];simp
  refine ⟨I.gens,I.os,I.base,I.ext,I.locL,I.locG,I.locN,?_,fun n hn=> ?_,fun i q sl hq hs=> ?_,fun i j q q' l l' hij hq hq' hl hl'=> ?_,fun q b' hq=> ?_,fun hno'=> ?_,fun e=>I.ownC (by rw [← D.own];exact e)⟩
  · rw [D.C.pl,List.length_append,List.length_append,List.length_map,ob.len,hlen]
  · refine I.cell n ?_
    rw [D.C.pl] at hn
    rcases List.mem_append.mp hn with hn | hn
    · rw [D.pl0];exact List.mem_append_left _ hn
    · refine x12 (List.mem_map.mp hn) ?_;intro m _ e;cases e
  · by_cases hi:i<pre.length
    · rw [List.getElem?_append_left (by lia)] at hs
      refine x02 (h0 hi hq) ?_;intro hq0 hq1
      have:=I.slots i q sl hq0 (by rw [List.getElem?_append_left (by lia)];exact hs)
      rw [fetch_dx hq1 _ act.dx]
      exact this
    · have hi:pre.length≤i:=by lia
      rw [List.getElem?_append_right (by lia),hlen] at hs
      rw [D.C.ge hi] at hq
      refine x12 (Option.map_eq_some_iff.mp hq) ?_;intro n hn hq2;subst hq2
      exact ob.slots _ n sl hn hs
  · have low:∀ {i:Nat} {l:List V},(st++fs)[i]? =some (.own l)→pre.length≤i∧fs[i - pre.length]? =some (.own l):=fun {i l} h=>by
      by_cases hi:i<pre.length
      · rw [List.getElem?_append_left (by lia)] at h
        exact absurd h (hno i l)
      · rw [List.getElem?_append_right (by lia),hlen] at h
        exact ⟨by lia,h⟩
    refine x02 (low hl) ?_;intro hi a1
    refine x02 (low hl') ?_;intro hj a2
    rw [D.C.ge hi] at hq
    rw [D.C.ge hj] at hq'
    refine x12 (Option.map_eq_some_iff.mp hq) ?_;intro n hn hq2;subst hq2
    refine x12 (Option.map_eq_some_iff.mp hq') ?_;intro n' hn' hq2;subst hq2
    exact ob.apart _ _ n n' l l' (by lia) hn hn' a1 a2
  · have:q=p∧b'=b:=by have:=D.C.obj;rw [this] at hq;induction hq using pairE;exact ⟨rfl,rfl⟩
    refine x02 this ?_;(try clear this);intro hq0 hq1;subst hq0;subst hq1
    refine ⟨⟨ob.ns,ob.gd,hdl,ob.wd⟩,(fetch_dx D.C.pf _ act.dx).trans hf,ob.ref,fun n hn=> ?_⟩
    subst hn
    exact I.cell n hpin
  · rw [D.C.obj] at hno';exact noneE' hno'
theorem emptyDict_isNs {h:Heap} {a:Addr} (e:h.get? a=some emptyDict):h.Ns1 a fun _=>none:=
  ⟨_,_,_,e,rfl,(fun x hx=>by simp at hx),List.Pairwise.nil,fun n=>rfl⟩
theorem ObjOk.move {act:Act} {fn:List Str} {b:Bool} {g:Gh} {h h':Heap} {fs:List Slot} (x:ObjOk G act fn b g h fs) (k:∀ a o,h.get? a=some o→(a=act.dx∨∃ vs n,o=LstO vs n)→h'.get? a=some o):ObjOk G act fn b g h' fs:=by
  refine x32 (Heap.Ns.of_isNs x.ns.1) ?_;intro o es ep e _
  have kD:=nsMap_keep x.ns.1 fun o e=>k _ o e (.inl rfl)
  refine ⟨x.len,x.ns.keep fun o e=>k _ o e (.inl rfl),x.gd,x.wd,x.ref,fun i n sl hn hs=> ?_,fun i j n n' l l' hij hn hn' hl hl'=> ?_⟩
  · rw [kD.2]
    have:=x.slots i n sl hn hs
    induction sl using Slot.casesOn with
    | unset=>trivial
    | val d=>exact this
    | own l=>
      refine x35 this ?_;(try clear this);intro a vs m e1 e2 e3 e4 e5
      exact ⟨a,vs,m,e1,k _ _ e2 (.inr ⟨vs,m,rfl⟩),e3,e4,e5⟩
  · rw [kD.2];exact x.apart i j n n' l l' hij hn hn' hl hl'
theorem adoptRun {A:Around} {env:Env} {act:Act} {g1 g':Gh} {s1 s':Shared} {st1 fs':List Slot} {pre:List Loc} {fn:List Str} {p:Loc} {b:Bool} {rn:Str} {dx ax:Addr} {rest:List Stmt} {r:SF} {bf:Fl} {st':St} {Q:Flow→Shared→Prop} {E:Value→Shared→Prop}
    (O:Ok N cx0 A env) (D:Adopt cx0 cx pre fn p b) (hS:StoresG G N cx0 pre.length rn p) (hr:SemW G N cx rest r) (I1:Inv G cx0 act env g1 s1 st1) (X:Ext g1 s1.heap g' s'.heap) (y1:s'.gens=s1.gens) (y2:s'.os=s1.os)
    (hd:s1.heap.get? dx=none) (ob:ObjOk G (act.with dx ax) fn b g' s'.heap fs') (hno:noOwn st1.dropLast=true) (hlu:lastUnset st1=true) (hf:r (st1.dropLast++fs')=some (bf,st'))
    (h:∀ fl g' s',ExtW act.W act.gE act.hE g' s'.heap→s'.gens=act.gens→s'.os=act.os→FlRel G g' fl bf→Q fl s'):
    wpAny (model G.prog G.w) A (storeName env rn (.ref ax)) (fun _ s2=>wpAny (model G.prog G.w) A (execs rest env) Q E s2) E s':=by
  refine x02 (last_unset hlu) ?_;intro q1 q2
  have nO:=noOwn_of hno
  have hlen:st1.dropLast.length=pre.length:=by
    have:=I1.len
    rw [D.pl0,q1] at this
    simpa using this
  have I2:=I1.move X y1 y2
  have noO:∀ i l,st1[i]? ≠some (Slot.own l):=fun i l e=>by
    rw [q1] at e
    by_cases hi:i<st1.dropLast.length
    · rw [List.getElem?_append_left hi] at e;exact nO i l e
    · rw [List.getElem?_append_right (by lia)] at e
      cases hh:i - st1.dropLast.length with
      | zero=>rw [hh] at e;cases e
      | succ k=>rw [hh] at e;simp at e
  have hdl:dx≠env.locals:=by
    refine x11 I1.locLive ?_;intro o e
    exact (live_ne e hd).symm
  refine x32 (Heap.Ns.of_isNs ob.ns.1) ?_;intro oD _ _ eD _
  have SD:Spare cx0 act env g' s' st1 dx:=⟨⟨oD,eD⟩,ob.gd,fun ht=>by
      rcases ht with ⟨ht,_⟩ | ⟨i,q,l,_,hl,_⟩
      · rw [D.obj0] at ht;exact ftE ht
      · exact noO i l hl,hdl,fun n c hn e=>by
      refine x22 (I1.cellsLt hn e) ?_;intro v o q _
      exact live_ne q hd,I1.ext.alive _ hd⟩
  refine hS O I2 fun s2 I3 kL kS hfe=> ?_
  rw [← hlen,q2] at I3
  have kD:=(kS dx SD).2
  have ob2:ObjOk G (act.with dx ax) fn b g' s2.heap fs':=ob.move fun a o e hh=>by
    rcases hh with rfl | ⟨vs,n,rfl⟩
    · exact kD.trans e
    · exact kL _ _ _ e
  rw [q1] at I3
  have J:=I3.adopt D hfe ob2 nO hdl
  have O':Ok N cx A env:=⟨O.sc.trans D.sc.symm,by rw [D.sc];exact O.kind,O.glob,O.bi,O.handled,O.depth,O.units,D.nd,(fun q b' hq=>by have:=D.C.obj;rw [this] at hq;induction hq using pairE;exact D.np),O.apartC⟩
  exact hr O' J hf h
theorem SemW.new {K:Frag} {rn cn:Str} {rp cp cpos pos:Pos} {e:Expr} {es:List Expr} {rest:List Stmt} {fs:List EF} {F:List Slot→List V→Option (V×List Slot)} {k n M:Nat} {fn:List Str} {pre:List Loc} {p:Loc} {fI:Addr} {r:SF} (D:Adopt cx0 cx pre fn p true) (hfn:fn.length=n) (hS:StoresG G N cx0 pre.length rn p)
    (hK:∀ h,G.gB.inH h→K.In h) (hcn:G.mg cn=some (.ref G.cls)) (hk:cx0.sc.names.lookup cn=some .globalImplicit) (hdb:(cn==("__debug__":Str))=false) (hkeep:keepIn K (.ref G.cls)=true) (hm:makesIn K G.cls=true)
    (hi:findIn K (.ref G.cls) "__init__"=some (some (.ref fI))) (hty:typeIn K (.ref fI)=some (.type "function")) (hC:CallO G M fI true fn k F) (hM:M<N) (ha:SemEs G N cx0 (e::es) fs) (hl:fs.length=k) (he:isStarred e=false)
    (hplain:∀ env pos,(backTo pos (starEach es env)).any (·.1)=false) (hs:∀ env,swapsWith (.Call (.Name cn cp) (e::es) [] cpos) (some (.Name rn rp)) pos.line env=pure false) (hr:SemW G N cx rest r):
    SemW G N cx0 (.Assign [.Name rn rp] (.Call (.Name cn cp) (e::es) [] cpos) pos::rest) (bNew n F fs r):=by
  intro A env act g s st b st' Q E O I hf h
  refine bind2 hf ?_;clear hf;intro xs st1 e1 hf
  refine bind2 hf ?_;clear hf;intro d fs' e2 hf
  induction d using V.cs <;> try ((first | exact noneE hf | cases hf);done)
  dsimp only at hf
  split at hf
  · rename_i hchk
    refine x02 (Bool.and_eq_true_iff.mp hchk) ?_;intro hno hlu
    refine wpAny_execs_cons (wpAny_Assign_Name (wpAny_Call_NameR (Name_function_global (by rw [O.sc];exact O.kind) (by unfold Env.kindOf;rw [O.sc];exact hk) (loadGlobal_global (O.glob ▸ G.g _ I.gBh) hcn ?_) hdb)) (hs env))
    refine callWith_K (hK _ I.gBh) hkeep ?_ (starEach_plain he env) (hplain env cpos)
    refine ha O I e1 fun vs g1 s1 T1 hv=>⟨hK _ T1.inv.gBh,?_⟩
    have Xk:=hK _ T1.inv.gBh
    have hd0:=dead_end s1.heap (Nat.le_refl _)
    have hd1:s1.heap.get? (s1.heap.objs.size+1)=none:=dead_end _ (by lia)
    let hN:=(s1.heap.push emptyDict).push (instObj G.cls s1.heap.objs.size)
    have kN:∀ a o,s1.heap.get? a=some o→hN.get? a=some o:=fun a o x=>Heap.get?_push_of_some _ (Heap.get?_push_of_some _ x)
    have eD:hN.get? s1.heap.objs.size=some emptyDict:=Heap.get?_push_of_some _ (Heap.get?_push_size _ rfl)
    have eX:hN.get? (s1.heap.objs.size+1)=some (instObj G.cls s1.heap.objs.size):=by
      have:=Heap.get?_push_size (s1.heap.push emptyDict) (o:=instObj G.cls s1.heap.objs.size) rfl
      rwa [Heap.size_push] at this
    let gN:=g1.put (s1.heap.objs.size+1) (instObj G.cls s1.heap.objs.size)
    have X0:Ext g1 s1.heap gN hN:=Ext.freeze T1.inv.gh kN hd1 eX
    let act1:Act:=act.with s1.heap.objs.size (s1.heap.objs.size+1)
    have hns:=emptyDict_isNs eD
    have hdE:act.hE.get? s1.heap.objs.size=none:=T1.inv.ext.alive _ hd0
    have ob0:ObjOk G act1 fn true gN hN (List.replicate n .unset):=by
      refine ⟨by simp [hfn],⟨(nsMap_of hns.ns).1,(fun hb=>by exact tfE hb),fun _=>⟨⟨_,hns⟩,fun n _=>congrFun (nsMap_of hns.ns).2 n⟩⟩,?_,.inl hdE,Gh.put_self ..,fun i m sl _ hs=> ?_,fun i j m m' l l' _ _ _ hl _=> ?_⟩
      · show gN s1.heap.objs.size=none
        show g1.put (s1.heap.objs.size+1) (instObj G.cls s1.heap.objs.size) s1.heap.objs.size=none
        rw [Gh.put_ne (Nat.ne_of_lt (Nat.lt_succ_self _))]
        exact Gh.fresh T1.inv.gh hd0
      · have:=List.eq_of_mem_replicate (List.mem_of_getElem? hs)
        subst this;trivial
      · have:=List.eq_of_mem_replicate (List.mem_of_getElem? hl)
        cases this
    refine wpAny_call (make_core (h:=s1.heap) (g:=s1.gens) (d:=s1.drawn) (t:=s1.toks) (os:=s1.os) (makes_of Xk hm) (looks_findIn Xk hi) (fun self=>bind_fn Xk self hty) (.inl rfl) ?_)
    have hw:(Code.builtin "type.__call__" ⟨.ref G.cls::([]++vs),[]⟩).weight=1:=rfl
    have hu:(Code.builtin "type.__call__" ⟨.ref G.cls::([]++vs),[]⟩).cUnits=1:=rfl
    have aok:AOk M (A.under (.builtin "type.__call__" ⟨.ref G.cls::([]++vs),[]⟩)):=by
      refine ⟨O.handled,?_,?_⟩
      · show A.depth+_+M<_
        rw [hw];have:=O.depth;lia
      · show A.units+_+20*M+20<_
        rw [hu];have:=O.units;lia
    refine hC (act:=act1) (g:=gN) (s:=⟨hN,s1.gens,s1.drawn,s1.toks,s1.os⟩) aok (T1.inv.gBg.trans X0.gg) X0.gh (hv.le X0.gg) ((evs_length e1).trans hl) ob0 e2 fun v g' s' X2 z1 z2 hrv ob=> ?_
    cases hrv
    refine ⟨rfl,?_⟩
    have hot:∀ a,OTf fn hN act1.dx (List.replicate n .unset) a→a=s1.heap.objs.size:=fun a ha=>by
      rcases ha with rfl | ⟨i,m,l,_,h2,_⟩
      · rfl
      · have:=List.eq_of_mem_replicate (List.mem_of_getElem? h2)
        cases this
    have X:Ext g1 s1.heap g' s'.heap:=X0.then X2 fun a ha=> .inr (by rw [hot a ha];exact hd0)
    have ob':ObjOk G act1 fn true g' s'.heap fs':=by
      refine ⟨ob.len,ob.ns,ob.gd,.inl hdE,ob.ref,fun i m sl hm hs=> ?_,ob.apart⟩
      have:=ob.slots i m sl hm hs
      induction sl using Slot.casesOn with
      | unset=>trivial
      | val d=>exact this
      | own l=>
        refine x35 this ?_;(try clear this);intro a us q y1 y2 y3 y4 y5
        refine ⟨a,us,q,y1,y2,y3,.inl ?_,y5⟩
        rcases y4 with y4 | y4
        · exact T1.inv.ext.alive _ (X0.alive a y4)
        · rw [hot a y4];exact hdE
    exact adoptRun O D hS hr T1.inv X z1 z2 hd0 ob' hno hlu hf h
  · exact noneE hf
end
end Mine
end
section
open PySem PySem.Calls PyProof.Rows PySem.W
set_option maxRecDepth 10000
namespace Mine
section
variable {G:Top0} {N:Nat} {cx cx0:Cx}
noncomputable def deckFn:List Str:=["cells","mixed"]
noncomputable def SemD (G:Top0) (N:Nat) (cx:Cx) (c:List Stmt) (F:St→Option (List Slot)):Prop:=∀ ⦃A env act g s st fs⦄ ⦃Q:Flow→Shared→Prop⦄ ⦃E:Value→Shared→Prop⦄,Ok N cx A env→Inv G cx act env g s st→F st=some fs→
  (∀ d g' s',ExtW act.W act.gE act.hE g' s'.heap→s'.gens=act.gens→s'.os=act.os→act.hE.get? d=none→ObjOk G (act.with d d) deckFn false g' s'.heap fs→Q (.ret (.ref d)) s')→wpAny (model G.prog G.w) A (execs c env) Q E s
theorem SemD.cons {c:Stmt} {r:List Stmt} {f:SF} {F:St→Option (List Slot)} (hc:SemS G N cx c f) (hr:SemD G N cx r F):SemD G N cx (c::r) (dCons f F):=by
  intro A env act g s st fs Q E O I hf h
  refine bind2 hf ?_;clear hf;intro fl st1 e1 hf
  induction fl using Fl.casesOn with
  | ret d=>exact noneE hf
  | next=>
    refine wpAny_execs_cons (hc O I e1 fun rf g1 s1 S1 r1=> ?_)
    cases rf <;> try (exact r1.elim)
    exact hr O S1.inv hf h
theorem SemD.last {k1 k2:Nat} {p1 p2 pos rpos:Pos} {e1 e2:Expr} {l:LF} {f:EF} {r:List Stmt} (h1:SemL G N cx e1 l) (h2:SemE G N cx e2 f):
    SemD G N cx (.Return (some (.Dict [some (.Constant (.str "cells") k1 p1),some (.Constant (.str "mixed") k2 p2)] [e1,e2] pos)) rpos::r) (dLast l f):=by
  intro A env act g s st fs Q E O I hf h
  refine bind2 hf ?_;clear hf;intro xs st1 q1 hf
  refine bind2 hf ?_;clear hf;intro x st2 q2 hf
  induction hf using someE
  refine wpAny_execs_cons (wpAny_Return_some ?_)
  have S0:=Spare.new I (o:={ cls:= .type "dict",data:= .dict #[]}) rfl
  have hdd:=dead_end s.heap (Nat.le_refl _)
  have T0:=I.madeU { cls:= .type "dict",data:= .dict #[]}
  refine wpAny_Dict_pairs (knd:=PySem.strKind G.prog G.w) (pairs:=[(eval (.Constant (.str "cells") k1 p1) env,(do let x←eval e1 env;standAt pos;pure x:Sem Value)),(eval (.Constant (.str "mixed") k2 p2) env,(do let x←eval e2 env;standAt pos;pure x:Sem Value))]) rfl (by simp) (by simp) ?_
  refine evalPairs_cons (Calls.Constant_str ?_)
  have T1:=T0.inv.stepT (s.toks+1)
  refine wpAny_bind (h1 O T1.inv q1 fun a g2 s2 X=>wpAny_bind (wpAny_standAt (wpAny_pure ?_)))
  refine evalPairs_cons (Calls.Constant_str ?_)
  have T3:=X.step.inv.stepT (s2.toks+1)
  refine wpAny_bind (h2 O T3.inv q2 fun v g4 s4 T4 r4=>wpAny_bind (wpAny_standAt (wpAny_pure ?_)))
  refine evalPairs_nil ?_
  have Ta:=(T0.trans T1).trans X.step
  have Tb:=T3.trans T4
  have Sd:=((S0.step T1).step X.step).step Tb
  have Sa:=X.spare.step Tb
  refine x22 X.at_ ?_;intro vs n ea ra
  have ea4:s4.heap.get? a=some (LstO vs n):=X.spare.keep Tb ea
  have hne:a≠s.heap.objs.size:=by
    refine x11 ((S0.step T1).live) ?_;intro o e
    exact (live_ne e X.fresh).symm
  refine ⟨[(("cells":Str),Value.ref a),(("mixed":Str),v)],⟨by simp [PySem.strKind,Value.isStrOf],rfl,by simp [PySem.strKind,Value.isStrOf],rfl,trivial⟩,?_,fun h' hd hs=> ?_⟩
  · exact (Heap.DictOf.new s.heap).at fun o e=>((S0.step T1).step X.step).keep Tb (((S0.step T1).keep X.step (S0.keep T1 e)))
  · have hcm:("cells":Str)≠"mixed":=by decide
    have hnd:([(("cells":Str),Value.ref a),(("mixed":Str),v)].map (·.1)).Nodup:=by
      simp only [List.map_cons,List.map_nil]
      exact List.nodup_cons.mpr ⟨by simpa using hcm,by simp⟩
    rw [merged_nil_of_nodup _ hnd] at hd
    refine x02 ((Ta.trans Tb).poke Sd hdd hs.extBut (s4.toks+2)) ?_;intro T5 _
    refine x02 (deck_facts hd) ?_;intro f1 f2
    have v1:h'.nsMap s.heap.objs.size "cells"=some (.ref a):=by rw [f2];exact (valueAt2 hcm).trans (if_pos rfl)
    have v2:h'.nsMap s.heap.objs.size "mixed"=some v:=by rw [f2];exact (valueAt2 hcm).trans ((if_neg hcm.symm).trans (if_pos rfl))
    refine h _ g4 _ T5.inv.ext T5.inv.gens T5.inv.os (I.ext.alive _ hdd) ⟨rfl,⟨f1,(fun _=>⟨_,_,hd⟩),(fun hb=>by exact ftE hb)⟩,Sd.gh,.inl (I.ext.alive _ hdd),rfl,fun i m sl hm hsl=> ?_,fun i j m m' l l' hij hm hm' hl hl'=> ?_⟩
    · match i,hm,hsl with
      | 0,hm,hsl=>
        induction hm using someE;induction hsl using someE
        exact ⟨a,vs,n,v1,(hs.2 a hne).trans ea4,Sa.gh,.inl X.above,ra.le Tb.gg⟩
      | 1,hm,hsl=>
        induction hm using someE;induction hsl using someE
        exact ⟨v,v2,r4⟩
      | i+2,hm,hsl=>simp at hsl
    · match i,j,hl,hl' with
      | 0,0,_,_=>exact absurd rfl hij
      | 0,1,_,hl'=>cases hl'
      | 1,_,hl,_=>cases hl
      | i+2,_,hl,_=>simp at hl
      | 0,j+2,_,hl'=>simp at hl'
noncomputable def CallD (G:Top0) (N:Nat) (a:Addr) (k:Nat) (F:List V→Option (List Slot)):Prop:=∀ ⦃A:Around⦄ ⦃g:Gh⦄ ⦃s:Shared⦄ ⦃vs:List Value⦄ ⦃ds:List V⦄ ⦃fs:List Slot⦄ ⦃R:Result→Shared→Prop⦄,AOk N A→G.gB.le g→g.inH s.heap→Rels G.prog G.w g vs ds→ds.length=k→F ds=some fs→
  (∀ d g' s',Ext g s.heap g' s'.heap→s'.gens=s.gens→s'.os=s.os→s.heap.get? d=none→ObjOk G ⟨g,s.heap,fun _=>False,s.gens,s.os,d,d⟩ deckFn false g' s'.heap fs→R (.ok (.ret (.ref d))) s')→codeAny (model G.prog G.w) A (.call (.ref a) ⟨vs,[]⟩) R s
theorem CallD.mk {a:Addr} {o:Obj} {fd:FuncData} {pn:List Str} {body:List Stmt} {F:St→Option (List Slot)} (ho:G.gB a=some o) (hd:o.data= .func fd) (K:FnOk fd cx pn body)
    (hof:cx.obj=none) (hnf:∀ n,Loc.fld n ∉ cx.places) (hcd:∀ h,G.gB.inH h→h.CodeRec fd.code fd.qualname)
    (hbind:∀ s vs,G.gB.inH s.heap→vs.length=pn.length→BindsTo s fd ⟨vs,[]⟩ (pn.zip vs)) (hS:SemD G N cx body F):
    CallD G (N+1) a pn.length (runD cx.places.length F):=by
  intro A g s vs ds fs R O hB hg r hk e h
  have hlv:vs.length=pn.length:=r.length.trans hk
  have hBh:G.gB.inH s.heap:=fun a o q=>hg a o (hB a o q)
  have e1:F (st0 cx.places.length ds)=some fs:=e
  refine enter (by have:=O.depth;lia) (hBh _ _ ho) hd (G.lim _ hBh) (hcd _ hBh) K.hbody (hbind s vs hBh hlv) K.hclo (bindKinds K) (fun s₁ x=> ?_) K.hco K.hgen K.hk
  refine x21 x.toInCall.same ?_;intro h₁ tk hs₁
  let act:Act:=⟨g,s.heap,fun _=>False,s.gens,s.os,0,0⟩
  let env:=callEnvC fd s.heap.objs.size a
  have hfr:=x.toInCall.fresh
  have hgl:∀ b,s.heap.objs.size≤b→g b=none:=fun b hb=>Gh.fresh hg (dead_end _ hb)
  have I:Inv G cx act env g s₁ (st0 cx.places.length ds):=by
    refine ⟨by rw [hs₁],by rw [hs₁],hB,⟨.refl _,fun a o q=>x.toInCall.keep a o (hg a o q),fun a o q _=>x.toInCall.keep a o q,fun _ _ _ q _=>q,dead_of_keep x.toInCall.keep⟩,dead_end _ (Nat.le_refl _),hgl _ (Nat.le_refl _),(nsMap_of x.toInCall.ns).1,?_,fun n hn=> ?_,fun i p sl hp hs=> ?_,fun i j p q l l' _ _ _ hl _=> ?_,fun p b hp=> ?_,fun _=>hnf,fun _ n c e=>dead_end _ (Nat.le_trans hfr (Nat.le_of_lt (x.above n c (mem_of_lookup e))))⟩
    · have:ds.length≤cx.places.length:=by rw [hk];exact K.hpn
      simp only [st0,List.length_append,List.length_map,List.length_replicate] at this ⊢
      lia
    · have hs:=cellsFrom_some fd.scope.names (s.heap.objs.size+1) [] (.inl (K.cells n hn))
      refine x11 (Option.isSome_iff_exists.mp hs) ?_;intro c hc
      exact ⟨c,_,hc,x.cell n c hc,hgl c (Nat.le_trans hfr (Nat.le_of_lt (x.above n c (mem_of_lookup hc))))⟩
    · rcases st0_get hs with ⟨d,e,rfl⟩ | rfl
      · exact entrySlots K rfl x hlv.symm r i p d hp e
      · trivial
    · rcases st0_get hl with ⟨d,e,q⟩ | q <;> cases q
    · rw [hof] at hp;exact noneE hp
  have O':Ok N cx (A.deeper env) env:=⟨K.hsc.symm,by rw [K.hsc];exact K.hk,K.hglob,K.hbi,O.handled,by have:=O.depth;show A.depth+1+N<_;lia,by have:=O.units;show A.units+3+20*N+20<_;lia,K.nodup,(fun p b hp=>by rw [hof] at hp;exact noneE hp),x.apart⟩
  exact hS O' I e1 fun d g' s' X y1 y2 hdd ob=>h d g' s' X y1 y2 hdd ob
theorem SemW.get {rn n:Str} {rp p0 cpos pos:Pos} {e:Expr} {es:List Expr} {rest:List Stmt} {fs:List EF} {a:Addr} {o:Obj} {fd:FuncData} {F:List V→Option (List Slot)} {k M:Nat} {pre:List Loc} {p:Loc} {r:SF} (D:Adopt cx0 cx pre deckFn p false) (hS:StoresG G N cx0 pre.length rn p)
    (hn:G.mg n=some (.ref a)) (ho:G.gB a=some o) (hd:o.data= .func fd) (hk:cx0.sc.names.lookup n=some .globalImplicit) (hdb:(n==("__debug__":Str))=false) (hC:CallD G M a k F) (hM:M≤N) (ha:SemEs G N cx0 (e::es) fs) (hl:fs.length=k) (he:isStarred e=false)
    (hs:∀ env,swapsWith (.Call (.Name n p0) (e::es) [] cpos) (some (.Name rn rp)) pos.line env=pure false) (hr:SemW G N cx rest r):
    SemW G N cx0 (.Assign [.Name rn rp] (.Call (.Name n p0) (e::es) [] cpos) pos::rest) (bGet F fs r):=by
  intro A env act g s st b st' Q E O I hf h
  refine bind2 hf ?_;clear hf;intro xs st1 e1 hf
  refine bind1 hf ?_;clear hf;intro fs' e2 hf
  split at hf
  · rename_i hchk
    refine x02 (Bool.and_eq_true_iff.mp hchk) ?_;intro hno hlu
    refine wpAny_execs_cons (wpAny_Assign_Name (wpAny_Call_NameR (Name_function_global (by rw [O.sc];exact O.kind) (by unfold Env.kindOf;rw [O.sc];exact hk) (loadGlobal_global (O.glob ▸ G.g _ I.gBh) hn ?_) hdb)) (hs env))
    refine callWith_function (o:=o) (fd:=fd) ?_
    rw [starEach_plain he]
    refine evalArgs_plain ?_
    have:=ha (pos:=cpos) (E:=E) (Q:=fun vs s'=>(s'.heap.get? a=some o∧o.data= .func fd)∧wpAny (model G.prog G.w) A (PySem.call (.ref a) ([]++vs) []) (fun v s₁=>wpAny (model G.prog G.w) A (storeName env rn v) (fun _ s2=>wpAny (model G.prog G.w) A (execs rest env) Q E s2) E s₁) E s') O I e1 fun vs g1 s1 T hv=>⟨⟨T.inv.gBh _ _ ho,hd⟩,?_⟩
    · rw [starEach_plain he] at this
      exact this
    refine wpAny_call (hC (O.aok.mono hM) T.inv.gBg T.inv.gh hv ((evs_length e1).trans hl) e2 fun d g' s' X z1 z2 hdd ob=> ?_)
    have hdE:act.hE.get? d=none:=T.inv.ext.alive _ hdd
    have ob':ObjOk G (act.with d d) deckFn false g' s'.heap fs':=by
      refine ⟨ob.len,ob.ns,ob.gd,.inl hdE,ob.ref,fun i m sl hm hs=> ?_,ob.apart⟩
      have:=ob.slots i m sl hm hs
      induction sl using Slot.casesOn with
      | unset=>trivial
      | val d=>exact this
      | own l=>
        refine x35 this ?_;(try clear this);intro a us q y1 y2 y3 y4 y5
        refine ⟨a,us,q,y1,y2,y3,.inl ?_,y5⟩
        rcases y4 with y4 | y4
        · exact T.inv.ext.alive _ y4
        · exact y4.elim
    exact adoptRun O D hS hr T.inv X z1 z2 hdd ob' hno hlu hf h
  · exact noneE hf
end
end Mine
end
section
open PySem PySem.Calls PyProof.Rows PySem.W
set_option maxRecDepth 10000
namespace Mine
section
variable {G:Top0} {N:Nat} {cx:Cx}
noncomputable def GlobV (G:Top0) (n:Str) (d:V):Prop:=∃ v,G.mg n=some v∧Rel G.prog G.w G.gB v d
theorem SemE.gv {n:Str} {pos:Pos} {d:V} (h:GlobV G n d) (hk:cx.sc.names.lookup n=some .globalImplicit) (hd:(n==("__debug__":Str))=false):SemE G N cx (.Name n pos) (eCst d):=
  let ⟨_,a,b⟩:=h;SemE.glob a b hk hd
noncomputable def FnV (G:Top0) (M:Nat) (n:Str) (k:Nat) (F:List V→Option V):Prop:=∃ a o fd,G.mg n=some (.ref a)∧G.gB a=some o∧o.data= .func fd∧CallV G M a k F
theorem SemE.fn {n:Str} {p pos:Pos} {e:Expr} {r:List Expr} {fs:List EF} {k M:Nat} {F:List V→Option V} (h:FnV G M n k F) (hM:M≤N) (ha:SemEs G N cx (e::r) fs) (hl:fs.length=k) (he:isStarred e=false) (hk:cx.sc.names.lookup n=some .globalImplicit)
    (hdb:(n==("__debug__":Str))=false):SemE G N cx (.Call (.Name n p) (e::r) [] pos) (eCall F fs):=
  let ⟨_,_,_,h1,h2,h3,h4⟩:=h;SemE.callN h1 h2 h3 h4 hM ha hl he hk hdb
theorem SemE.fn0 {n:Str} {p pos:Pos} {M:Nat} {F:List V→Option V} (h:FnV G M n 0 F) (hM:M≤N) (hk:cx.sc.names.lookup n=some .globalImplicit) (hdb:(n==("__debug__":Str))=false):SemE G N cx (.Call (.Name n p) [] [] pos) (eCall F []):=
  let ⟨_,_,_,h1,h2,h3,h4⟩:=h;SemE.call0 h1 h2 h3 h4 hM hk hdb
noncomputable def FnO (G:Top0) (M:Nat) (n:Str) (b:Bool) (fn:List Str) (k:Nat) (F:List Slot→List V→Option (V×List Slot)):Prop:=∃ a o fd,G.mg n=some (.ref a)∧G.gB a=some o∧o.data= .func fd∧CallO G M a b fn k F
theorem SemE.fnO {n:Str} {p pos:Pos} {oe:Expr} {es:List Expr} {fs:List EF} {k M:Nat} {b:Bool} {fn:List Str} {pre:List Loc} {q:Loc} {F:List Slot→List V→Option (V×List Slot)} (h:FnO G M n b fn k F) (hM:M≤N) (C:CxObj cx pre fn q b) (hO:SemObj G N cx oe) (ha:SemEs G N cx es fs) (hl:fs.length=k)
    (he:isStarred oe=false) (hk:cx.sc.names.lookup n=some .globalImplicit) (hdb:(n==("__debug__":Str))=false):SemE G N cx (.Call (.Name n p) (oe::es) [] pos) (eCallO pre.length F fs):=
  let ⟨_,_,_,h1,h2,h3,h4⟩:=h;SemE.callO h1 h2 h3 h4 hM C hO ha hl he hk hdb
structure Wr (G:Top0) (K:Frag):Prop where
  hK:∀ h,G.gB.inH h→K.In h
  I0:InstK K G.cls
noncomputable def MethO (G:Top0) (K:Frag) (M:Nat) (name:Str) (fn:List Str) (k:Nat) (F:List Slot→List V→Option (V×List Slot)):Prop:=
  ∃ a o fd,G.gB a=some o∧o.data= .func fd∧name ∉ instNames∧findIn K (.ref G.cls) name=some (some (.ref a))∧typeIn K (.ref a)=some (.type "function")∧CallO G M a true fn k F
theorem SemE.m0 {K:Frag} {on name:Str} {op apos pos:Pos} {M:Nat} {fn:List Str} {pre:List Loc} {q:Loc} {F:List Slot→List V→Option (V×List Slot)} (W:Wr G K) (h:MethO G K M name fn 0 F) (hM:M≤N) (hO:SemObj G N cx (.Name on op)) (C:CxObj cx pre fn q true) (hline:(apos.endLine==pos.line)=true):
    SemE G N cx (.Call (.Attribute (.Name on op) name apos) [] [] pos) (eCallO pre.length F []):=
  let ⟨_,_,_,h1,h2,h3,h4,h5,h6⟩:=h;SemE.callM0 hO C W.hK W.I0 h1 h2 h3 h4 h5 h6 hM hline
theorem SemE.m1 {K:Frag} {on name:Str} {op apos pos:Pos} {e:Expr} {fs:List EF} {k M:Nat} {fn:List Str} {pre:List Loc} {q:Loc} {F:List Slot→List V→Option (V×List Slot)} (W:Wr G K) (h:MethO G K M name fn k F) (hM:M≤N) (hO:SemObj G N cx (.Name on op)) (C:CxObj cx pre fn q true)
    (ha:SemEs G N cx [e] fs) (hl:fs.length=k) (he:isStarred e=false) (hline:(apos.endLine==pos.line)=true):SemE G N cx (.Call (.Attribute (.Name on op) name apos) [e] [] pos) (eCallO pre.length F fs):=
  let ⟨_,_,_,h1,h2,h3,h4,h5,h6⟩:=h;SemE.callM hO C W.hK W.I0 h1 h2 h3 h4 h5 h6 hM ha hl he (fun env=>by rw [starEach_plain he];rfl) hline
noncomputable def relS (outer scope:Scope):Scope:={ scope with names:=scope.names.map fun (n,k)=>if (k== .free && outer.kind== .function && outer.names.lookup n==some .cell) then (n,.cell) else (n,k)}
theorem relS_eq {env:Env} {scope:Scope} (h:env.scope=cx.sc):relabel scope env=relS cx.sc scope:=by
  unfold relabel relS Env.kindOf
  rw [h]
noncomputable def cxA (cx:Cx) (scope:Scope) (x:Str):Cx:=⟨relS cx.sc scope,[.loc x],none,false⟩
noncomputable def chkA (scope:Scope) (x:Str):Bool:=scope.kind== .function && scope.names.all (fun y=>y.2 != .cell && y.2 != .free) && scope.names.all (fun y=>y.2 != .local || scope.names.lookup y.1==some .local)
theorem CompOk.of {scope:Scope} {x:Str} (h:chkA scope x=true):CompOk cx (cxA cx scope x) scope x∧(cxA cx scope x).sc.kind= .function:=by
  unfold chkA at h
  refine x02 (Bool.and_eq_true_iff.mp h) ?_;intro h h3
  refine x02 (Bool.and_eq_true_iff.mp h) ?_;intro h1 h2
  have hk:scope.kind= .function:=by simpa using h1
  rw [List.all_eq_true] at h2 h3
  refine ⟨⟨fun env he=>relS_eq he,hk,rfl,rfl,rfl,fun y hy e=> ?_,fun y hy e=> ?_,fun y hy e=> ?_⟩,hk⟩
  · have:=h2 y hy;rw [e] at this;simp at this
  · have:=h2 y hy;rw [e] at this;simp at this
  · have:=h3 y hy;rw [e] at this;simpa using this
theorem SemL.cA {elt iter:Expr} {x:Str} {px:Pos} {ifs:List Expr} {scope:Scope} {pos:Pos} {fit:LF} {fs:List TF} {f:EF} (hc:chkA scope x=true) (hx:(cxA cx scope x).sc.names.lookup x=some .local) (hi:SemI G N cx iter fit)
    (ht:SemTs G N (cxA cx scope x) ifs fs) (he:SemE G N (cxA cx scope x) elt f) (hs:∀ env x,foldedSetIterable iter env x=pure x):SemL G N cx (.ListComp elt [⟨.Name x px,iter,ifs,0⟩] scope pos) (lCompA fit fs f):=
  SemL.comp (CompOk.of hc).1 (CompOk.of hc).2 hi (Stores.loc rfl hx) ht he hs
theorem SemS.cA {elt iter:Expr} {x y:Str} {px py:Pos} {ifs:List Expr} {scope:Scope} {pos spos:Pos} {fit:LF} {fs:List TF} {f:EF} {i:Nat} (hc:chkA scope x=true) (hx:(cxA cx scope x).sc.names.lookup x=some .local) (hi:SemI G N cx iter fit)
    (ht:SemTs G N (cxA cx scope x) ifs fs) (he:SemE G N (cxA cx scope x) elt f) (hs:∀ env x,foldedSetIterable iter env x=pure x) (hSy:Stores G N cx i y) (hsw:∀ env:Env,env.scope=cx.sc→swapsWith (.ListComp elt [⟨.Name x px,iter,ifs,0⟩] scope pos) (some (.Name y py)) spos.line env=pure true):
    SemS G N cx (.Assign [.Name y py] (.ListComp elt [⟨.Name x px,iter,ifs,0⟩] scope pos) spos) (sAsg i (eL (lCompA fit fs f))):=
  SemS.asgComp (CompOk.of hc).1 (CompOk.of hc).2 hi (Stores.loc rfl hx) ht he hs hSy hsw
theorem SemS.cAL {elt iter:Expr} {x y:Str} {px py:Pos} {ifs:List Expr} {scope:Scope} {pos spos:Pos} {fit:LF} {fs:List TF} {f:EF} {i:Nat} (hc:chkA scope x=true) (hx:(cxA cx scope x).sc.names.lookup x=some .local) (hi:SemI G N cx iter fit)
    (ht:SemTs G N (cxA cx scope x) ifs fs) (he:SemE G N (cxA cx scope x) elt f) (hs:∀ env x,foldedSetIterable iter env x=pure x) (hSy:Stores G N cx i y) (hsw:∀ env:Env,env.scope=cx.sc→swapsWith (.ListComp elt [⟨.Name x px,iter,ifs,0⟩] scope pos) (some (.Name y py)) spos.line env=pure true):
    SemS G N cx (.Assign [.Name y py] (.ListComp elt [⟨.Name x px,iter,ifs,0⟩] scope pos) spos) (sAsgL i (lCompA fit fs f)):=
  SemS.asgCompL (CompOk.of hc).1 (CompOk.of hc).2 hi (Stores.loc rfl hx) ht he hs hSy hsw
theorem swaps_of {elt:Expr} {gens:List Comprehension} {scope:Scope} {pos py:Pos} {y:Str} {line:Nat} (h:(cx.sc.kind== .function && cx.sc.names.lookup y==some .local && py.line==pos.line && !(scope.names.any fun x=>x.1==y && (x.2== .local || x.2== .cell)))=true):
    ∀ env:Env,env.scope=cx.sc→swapsWith (.ListComp elt gens scope pos) (some (.Name y py)) line env=pure true:=by
  intro env he
  unfold swapsWith
  refine x02 (Bool.and_eq_true_iff.mp h) ?_;intro h h4
  refine x02 (Bool.and_eq_true_iff.mp h) ?_;intro h h3
  refine x02 (Bool.and_eq_true_iff.mp h) ?_;intro h1 h2
  simp only [Env.blockKind,Env.kindOf,he]
  have hk:cx.sc.kind= .function:=by simpa using h1
  have e3:(py.line==(Expr.ListComp elt gens scope pos).pos.line)=true:=h3
  rw [h2,e3,h4,hk]
  rfl
noncomputable def kindChk (sc:Scope) (n:Str):Loc→Bool
  | .loc m=>m==n && sc.names.lookup n==some .local
  | .cell m=>m==n && sc.names.lookup n==some .cell
  | .fld _=>false
theorem kindChk_of {sc:Scope} {n:Str} {p:Loc} (h:kindChk sc n p=true):(p= .loc n∧sc.names.lookup n=some .local)∨(p= .cell n∧sc.names.lookup n=some .cell):=by
  cases p with
  | loc m=>refine x02 (Bool.and_eq_true_iff.mp h) ?_;intro a b;exact .inl ⟨by rw [eq_of_beq a],by simpa using b⟩
  | cell m=>refine x02 (Bool.and_eq_true_iff.mp h) ?_;intro a b;exact .inr ⟨by rw [eq_of_beq a],by simpa using b⟩
  | fld m=>exact ftE h
noncomputable def cellChk (sc:Scope):Loc→Bool
  | .cell n=>sc.names.lookup n==some .cell
  | _=>true
noncomputable def isFld:Loc→Bool
  | .fld _=>true
  | _=>false
noncomputable def zipChk (sc:Scope):List Str→List Loc→Bool
  | [],_=>true
  | n::ns,p::ps=>kindChk sc n p && zipChk sc ns ps
  | _::_,[]=>false
theorem zipChk_of {sc:Scope}:∀ {ns:List Str} {ps:List Loc},zipChk sc ns ps=true→ns.length≤ps.length∧∀ (i:Nat) (n:Str),ns[i]? =some n→(ps[i]? =some (.loc n)∧sc.names.lookup n=some .local)∨(ps[i]? =some (.cell n)∧sc.names.lookup n=some .cell)
  | [],_,_=>⟨Nat.zero_le _,fun i n h=>by simp at h⟩
  | n::ns,p::ps,h=>by
    refine x02 (Bool.and_eq_true_iff.mp h) ?_;intro h1 h2
    refine x02 (zipChk_of h2) ?_;intro a b
    refine ⟨by simp;exact a,fun i m hi=> ?_⟩
    induction i using Nat.casesAuxOn with
    | zero=>
      induction hi using someE
      rcases kindChk_of h1 with ⟨rfl,q⟩ | ⟨rfl,q⟩
      · exact .inl ⟨rfl,q⟩
      · exact .inr ⟨rfl,q⟩
    | succ i=>exact b i m (by simpa using hi)
  | n::ns,[],h=>by exact ftE h
structure FdOk (fd:FuncData):Prop where
  hclo:fd.closure=[]
  hglob:fd.globals=mainGlobals
  hbi:fd.builtins=builtinsNs
  hco:fd.scope.isCoroutine=false
  hgen:fd.scope.isGenerator=false
  hk:fd.scope.kind= .function
theorem FdOk.b {fd:FuncData} (h:(fd.closure.isEmpty && (fd.globals==mainGlobals && (fd.builtins==builtinsNs && (!fd.scope.isCoroutine && (!fd.scope.isGenerator && (match fd.scope.kind with | .function=>true | _=>false))))))=true):FdOk fd:=by
  simp only [Bool.and_eq_true,List.isEmpty_iff,beq_iff_eq,Bool.not_eq_true'] at h
  refine ⟨h.1,h.2.1,h.2.2.1,h.2.2.2.1,h.2.2.2.2.1,?_⟩
  have q:=h.2.2.2.2.2
  revert q
  cases fd.scope.kind with
  | function=>exact fun _=>rfl
  | _=>exact fun e=>Bool.noConfusion e
theorem FnOk.of {fd:FuncData} {pn:List Str} {body:List Stmt} (F:FdOk fd) (hb:fd.body= .stmts body) (hsc:cx.sc=fd.scope) (h1:cx.places.Nodup) (h2:pn.Nodup) (h3:zipChk fd.scope pn cx.places=true) (h4:cx.places.all (cellChk fd.scope)=true):FnOk fd cx pn body:=
  ⟨hb,F.hclo,F.hglob,F.hbi,hsc,F.hco,F.hgen,F.hk,h1,h2,(zipChk_of h3).1,(zipChk_of h3).2,fun n hn=>by
    have:=List.all_eq_true.mp h4 _ hn
    simpa [cellChk] using this⟩
theorem CxObj.of {pre:List Loc} {fn:List Str} {p:Loc} {b:Bool} (h1:cx.places=pre++fn.map Loc.fld) (h2:pre.any isFld=false) (h3:cx.obj=some (p,b)) (h4:isFld p=false):CxObj cx pre fn p b:=
  ⟨h1,fun n hn=>by
    have:=List.any_eq_false.mp h2 _ hn
    simp [isFld] at this,h3,fun n e=>by subst e;exact tfE h4⟩
theorem FnOkO.of {fd:FuncData} {on:Str} {pn:List Str} {body:List Stmt} {pre:List Loc} {fn:List Str} {p:Loc} {b:Bool} (F:FdOk fd) (hb:fd.body= .stmts body) (hsc:cx.sc=fd.scope) (h1:cx.places.Nodup) (h2:(on::pn).Nodup) (C:CxObj cx pre fn p b) (hp:kindChk fd.scope on p=true) (np:p ∉ cx.places)
    (h3:zipChk fd.scope pn pre=true) (h4:cx.places.all (cellChk fd.scope)=true):FnOkO fd cx on pn body pre fn p b:=
  ⟨hb,F.hclo,F.hglob,F.hbi,hsc,F.hco,F.hgen,F.hk,h1,h2,(zipChk_of h3).1,C,kindChk_of hp,np,(zipChk_of h3).2,fun n hn=>by
    have:=List.all_eq_true.mp h4 _ hn
    simpa [cellChk] using this⟩
noncomputable def cxB (cx:Cx) (scope:Scope) (x dk:Str) (fr fn:List Str) (b:Bool):Cx:=⟨relS cx.sc scope,(.loc x::fr.map .cell)++fn.map .fld,some (.cell dk,b),false⟩
noncomputable def chkB (scope:Scope) (dk:Str) (fr:List Str):Bool:=scope.kind== .function && scope.names.all (fun y=>y.2 != .cell) && scope.names.all (fun y=>y.2 != .local || scope.names.lookup y.1==some .local) &&
  decide (freesOf scope).Nodup && (freesOf scope).contains dk && fr.all (fun n=>(freesOf scope).contains n) && (freesOf scope).all (fun n=>n==dk || fr.contains n)
theorem CompOkB.of {scope:Scope} {x dk:Str} {pre:List Loc} {fn:List Str} {b:Bool} {fr:List Str} {fi:List Nat} (C:CxObj cx pre fn (.cell dk) b) (h:chkB scope dk fr=true) (hnd:(cxB cx scope x dk fr fn b).places.Nodup) (np:Loc.cell dk ∉ (cxB cx scope x dk fr fn b).places)
    (hfi:fi.length=fr.length∧∀ (j:Nat) (n:Str) (i:Nat),fr[j]? =some n→fi[j]? =some i→cx.places[i]? =some (.cell n)):CompOkB cx (cxB cx scope x dk fr fn b) scope x dk pre fn b fr fi∧(cxB cx scope x dk fr fn b).sc.kind= .function:=by
  unfold chkB at h
  refine x02 (Bool.and_eq_true_iff.mp h) ?_;intro h h7
  refine x02 (Bool.and_eq_true_iff.mp h) ?_;intro h h6
  refine x02 (Bool.and_eq_true_iff.mp h) ?_;intro h h5
  refine x02 (Bool.and_eq_true_iff.mp h) ?_;intro h h4
  refine x02 (Bool.and_eq_true_iff.mp h) ?_;intro h h3
  refine x02 (Bool.and_eq_true_iff.mp h) ?_;intro h1 h2
  have hk:scope.kind= .function:=by simpa using h1
  rw [List.all_eq_true] at h2 h3 h6 h7
  refine ⟨⟨fun env he=>relS_eq he,hk,C,⟨rfl,fun n hn=> ?_,rfl,fun n e=>by cases e⟩,np,hnd,rfl,fun y hy e=> ?_,fun y hy e=> ?_,⟨rfl,by simpa using h4,by simpa using h5,fun n hn=>by simpa using h6 n hn,fun n hn=>by simpa using h7 n hn⟩,hfi⟩,hk⟩
  · rcases List.mem_cons.mp hn with e | hn
    · cases e
    · refine x12 (List.mem_map.mp hn) ?_;intro _ _ e
      cases e
  · have:=h2 y hy;rw [e] at this;simp at this
  · have:=h3 y hy;rw [e] at this;simpa using this
theorem SemS.cB {elt iter:Expr} {x y dk:Str} {px py:Pos} {ifs:List Expr} {scope:Scope} {pos spos:Pos} {fit:LF} {fs:List TF} {f:EF} {i:Nat} {pre:List Loc} {fn:List Str} {b:Bool} (fr:List Str) {fi:List Nat} (C:CxObj cx pre fn (.cell dk) b) (h:chkB scope dk fr=true) (hnd:(cxB cx scope x dk fr fn b).places.Nodup)
    (np:Loc.cell dk ∉ (cxB cx scope x dk fr fn b).places) (hfi:fi.length=fr.length∧∀ (j:Nat) (n:Str) (i:Nat),fr[j]? =some n→fi[j]? =some i→cx.places[i]? =some (.cell n)) (hx:(cxB cx scope x dk fr fn b).sc.names.lookup x=some .local) (hi:SemI G N cx iter fit)
    (ht:SemTs G N (cxB cx scope x dk fr fn b) ifs fs) (he:SemE G N (cxB cx scope x dk fr fn b) elt f) (hs:∀ env x,foldedSetIterable iter env x=pure x) (hSy:Stores G N cx i y) (hsw:∀ env:Env,env.scope=cx.sc→swapsWith (.ListComp elt [⟨.Name x px,iter,ifs,0⟩] scope pos) (some (.Name y py)) spos.line env=pure true):
    SemS G N cx (.Assign [.Name y py] (.ListComp elt [⟨.Name x px,iter,ifs,0⟩] scope pos) spos) (sAsg i (eL (lComp pre.length 1 fi fit fs f))):=
  SemS.asgCompB (CompOkB.of C h hnd np hfi).1 (CompOkB.of C h hnd np hfi).2 hi (Stores.loc rfl hx) ht he hs hSy hsw
theorem SemS.augL {n:Str} {pp pos:Pos} {i:Nat} {op:Operator} {e:Expr} {f:EF} (hp:cx.places[i]? =some (.loc n)) (hk:cx.sc.names.lookup n=some .local) (hx:SemE G N cx e f) (ho:op= .Add∨op= .BitAnd∨op= .BitOr):SemS G N cx (.AugAssign (.Name n pp) op e pos) (sAug i op f):=
  SemS.aug (Stores.loc hp hk) (fun O I e h=>by
    refine x23 (Inv.read I hp e) ?_;intro v g' q r T
    exact wp_loadName_fetch O I hk q (h v g' _ T r)) hx ho
noncomputable def FnD (G:Top0) (M:Nat) (n:Str) (k:Nat) (F:List V→Option (List Slot)):Prop:=∃ a o fd,G.mg n=some (.ref a)∧G.gB a=some o∧o.data= .func fd∧CallD G M a k F
theorem SemW.getD {cx0:Cx} {rn n:Str} {rp p0 cpos pos:Pos} {e:Expr} {es:List Expr} {rest:List Stmt} {fs:List EF} {F:List V→Option (List Slot)} {k M:Nat} {pre:List Loc} {p:Loc} {r:SF} (D:Adopt cx0 cx pre deckFn p false) (hS:StoresG G N cx0 pre.length rn p)
    (h:FnD G M n k F) (hM:M≤N) (hk:cx0.sc.names.lookup n=some .globalImplicit) (hdb:(n==("__debug__":Str))=false) (ha:SemEs G N cx0 (e::es) fs) (hl:fs.length=k) (he:isStarred e=false)
    (hs:∀ env,swapsWith (.Call (.Name n p0) (e::es) [] cpos) (some (.Name rn rp)) pos.line env=pure false) (hr:SemW G N cx rest r):
    SemW G N cx0 (.Assign [.Name rn rp] (.Call (.Name n p0) (e::es) [] cpos) pos::rest) (bGet F fs r):=
  let ⟨_,_,_,h1,h2,h3,h4⟩:=h;SemW.get D hS h1 h2 h3 hk hdb h4 hM ha hl he hs hr
theorem SemW.newM {K:Frag} {cx0:Cx} {rn cn:Str} {rp cp cpos pos:Pos} {e:Expr} {es:List Expr} {rest:List Stmt} {fs:List EF} {F:List Slot→List V→Option (V×List Slot)} {k n M:Nat} {fn:List Str} {pre:List Loc} {p:Loc} {r:SF} (W:Wr G K) (D:Adopt cx0 cx pre fn p true) (hfn:fn.length=n) (hS:StoresG G N cx0 pre.length rn p)
    (hcn:G.mg cn=some (.ref G.cls)) (hk:cx0.sc.names.lookup cn=some .globalImplicit) (hdb:(cn==("__debug__":Str))=false) (hkeep:keepIn K (.ref G.cls)=true) (hm:makesIn K G.cls=true)
    (h:MethO G K M "__init__" fn k F) (hM:M<N) (ha:SemEs G N cx0 (e::es) fs) (hl:fs.length=k) (he:isStarred e=false)
    (hplain:∀ env pos,(backTo pos (starEach es env)).any (·.1)=false) (hs:∀ env,swapsWith (.Call (.Name cn cp) (e::es) [] cpos) (some (.Name rn rp)) pos.line env=pure false) (hr:SemW G N cx rest r):
    SemW G N cx0 (.Assign [.Name rn rp] (.Call (.Name cn cp) (e::es) [] cpos) pos::rest) (bNew n F fs r):=
  let ⟨_,_,_,_,_,_,h4,h5,h6⟩:=h;SemW.new D hfn hS W.hK hcn hk hdb hkeep hm h4 h5 h6 hM ha hl he hplain hs hr
noncomputable def KV (G:Top0) (N:Nat) (cx:Cx) (pos:Pos) (keys:List (Option Expr)) (values:List Expr) (fs:List (EF×EF)):Prop:=∃ ps:List (Expr×Expr),keys=ps.map (fun p=>some p.1)∧values=ps.map (·.2)∧SemPs G N cx pos ps fs
theorem KV.nil {pos:Pos}:KV G N cx pos [] [] []:=⟨[],rfl,rfl,SemPs.nil⟩
theorem KV.cons {pos:Pos} {k v:Expr} {ks:List (Option Expr)} {vs:List Expr} {fk fv:EF} {fs:List (EF×EF)} (hk:SemE G N cx k fk) (hv:SemE G N cx v fv) (h:KV G N cx pos ks vs fs):KV G N cx pos (some k::ks) (v::vs) ((fk,fv)::fs):=
  let ⟨ps,h1,h2,h3⟩:=h;⟨(k,v)::ps,by rw [h1];rfl,by rw [h2];rfl,SemPs.cons hk hv h3⟩
theorem SemE.dctK {fs:List (EF×EF)} {keys:List (Option Expr)} {values:List Expr} {pos:Pos} (h:KV G N cx pos keys values fs) (h0:(keys.length==0)=false) (hn:Nat.ble keys.length 15=true):SemE G N cx (.Dict keys values pos) (eDct fs):=
  let ⟨ps,h1,h2,h3⟩:=h;SemE.dct h3 h1 h2 (fun e=>by subst e;rw [h1] at h0;exact tfE h0) (by rw [h1,List.length_map] at hn;exact Nat.le_of_ble_eq_true hn)
noncomputable def KVL (G:Top0) (N:Nat) (cx:Cx) (keys:List (Option Expr)) (values:List Expr) (fs:List (EF×EF)):Prop:=∃ ps:List (Expr×Expr),keys=ps.map (fun p=>some p.1)∧values=ps.map (·.2)∧AllE G N cx ps fs
theorem KVL.nil:KVL G N cx [] [] []:=⟨[],rfl,rfl,AllE.nil⟩
theorem KVL.cons {k v:Expr} {ks:List (Option Expr)} {vs:List Expr} {fk fv:EF} {fs:List (EF×EF)} (hk:SemE G N cx k fk) (hv:SemE G N cx v fv) (h:KVL G N cx ks vs fs):KVL G N cx (some k::ks) (v::vs) ((fk,fv)::fs):=
  let ⟨ps,h1,h2,h3⟩:=h;⟨(k,v)::ps,by rw [h1];rfl,by rw [h2];rfl,AllE.cons hk hv h3⟩
theorem SemE.dctL {fs:List (EF×EF)} {keys:List (Option Expr)} {values:List Expr} {pos:Pos} (h:KVL G N cx keys values fs) (hn:(keys.length==16)=true):SemE G N cx (.Dict keys values pos) (eDct fs):=
  let ⟨ps,h1,h2,h3⟩:=h
  have hl:ps.length=16:=by rw [h1,List.length_map] at hn;exact eq_of_beq hn
  SemE.dctLong h3 h1 h2 (by lia) (by lia)
end
end Mine
end
section
open PySem
namespace Mine.P
structure Pen where
  lo:Nat
  ln:Nat
  f:Int
  b:Int
  u:Int
  k:Int
noncomputable abbrev Row:=List (Option Nat)
noncomputable def pv:Option Nat→V
  | none=> .none
  | some n=> .int (n:Int)
noncomputable def rowV (r:Row):V:= .lst (r.map pv)
noncomputable def rowsV (l:List Row):V:= .lst (l.map rowV)
noncomputable def flV (p:Pen):Int:=(p.lo:Int)+512*(p.ln:Int)
noncomputable def penV (p:Pen):V:= .tup [.int (flV p),.int p.f,.int p.b,.int p.u,.int p.k]
noncomputable def heads (l:List Row):List (Option Nat):=l.map fun r=>r.headD none
noncomputable def manyOf:Option Nat→Nat
  | some 5=>1
  | some 2=>3
  | _=>0
noncomputable def hueOf (k:Option Nat) (l:List (Option Nat)):Option Nat:=
  if k=some 5 then (match l with | [x]=>if x.getD 0≤255 then some (x.getD 0) else none | _=>none)
  else if k=some 2 then (match l with | [x,y,z]=>if x.getD 0≤255∧y.getD 0≤255∧z.getD 0≤255 then some (16777216+65536*x.getD 0+256*y.getD 0+z.getD 0) else none | _=>none)
  else none
noncomputable def setHue (n:Nat) (c:Option Nat) (p:Pen):Pen:=match c with
  | none=>p
  | some c=>if n=38 then { p with f:=c} else if n=48 then { p with b:=c} else { p with u:=c}
inductive Act where
  | reset
  | under (k:Nat)
  | fore (c:Int)
  | back (c:Int)
  | unc
  | set (bit:Nat)
  | clear (mask:Nat)
  | nop
  deriving DecidableEq
noncomputable def act (n:Nat):Act:=
  if n=0 then .reset
  else if n=4 then .under 1
  else if n=21 then .under 2
  else if n=24 then .under 0
  else if 30≤n∧n≤37 then .fore ((n - 30:Nat):Int)
  else if n=39 then .fore (-1)
  else if 90≤n∧n≤97 then .fore ((n - 90+8:Nat):Int)
  else if 40≤n∧n≤47 then .back ((n - 40:Nat):Int)
  else if n=49 then .back (-1)
  else if 100≤n∧n≤107 then .back ((n - 100+8:Nat):Int)
  else if n=59 then .unc
  else if n=1 then .set 1
  else if n=2 then .set 2
  else if n=3 then .set 4
  else if n=5 then .set 8
  else if n=6 then .set 16
  else if n=7 then .set 32
  else if n=8 then .set 64
  else if n=9 then .set 128
  else if n=53 then .set 256
  else if n=22 then .clear 3
  else if n=23 then .clear 4
  else if n=25 then .clear 24
  else if n=27 then .clear 32
  else if n=28 then .clear 64
  else if n=29 then .clear 128
  else if n=55 then .clear 256
  else .nop
noncomputable def doAct:Act→Pen→Pen
  | .reset,p=>⟨0,0,-1,-1,-1,p.k⟩
  | .under k,p=>{ p with ln:=k}
  | .fore c,p=>{ p with f:=c}
  | .back c,p=>{ p with b:=c}
  | .unc,p=>{ p with u:= -1}
  | .set m,p=>{ p with lo:=p.lo ||| m}
  | .clear m,p=>{ p with lo:=p.lo &&& (511 - m)}
  | .nop,p=>p
noncomputable def plain (n:Nat) (p:Pen):Pen:=doAct (act n) p
noncomputable def d987:Int:=16777216+65536*9+256*8+7
noncomputable def subAct (r:Row) (p:Pen):Pen:=
  if r==[some 58,some 5,some 7] then { p with u:=7}
  else if r==[some 38,some 5,some 0] then { p with f:=0}
  else if r==[some 38,some 2,some 9,some 8,some 7] then { p with f:=d987}
  else if r==[some 48,some 2,none,some 9,some 8,some 7] then { p with b:=d987}
  else if r.length==2 && r.headD none==some 4 then (match r.getD 1 none with | some k=>if k≤5 then { p with ln:=k} else p | none=>p)
  else p
noncomputable def run:Nat→List Row→Pen→Pen
  | 0,_,p=>p
  | _+1,[],p=>p
  | k+1,r::rest,p=>match r with
    | [x]=>
      if x.getD 0=38∨x.getD 0=48∨x.getD 0=58 then
        match rest with
        | []=>p
        | h::t=>run k (t.drop (manyOf (h.headD none))) (setHue (x.getD 0) (hueOf (h.headD none) (heads (t.take (manyOf (h.headD none))))) p)
      else run k rest (plain (x.getD 0) p)
    | r=>run k rest (subAct r p)
noncomputable def multis:List Row:=[[some 58,some 5,some 7],[some 4,some 3],[some 4,some 0],[some 4,some 9],[some 4,none],[none,some 4],[some 1,some 1],[some 38,some 5,some 300],[some 38,some 5,some 0],[some 38,some 2,some 9,some 8,some 7],[some 48,some 2,none,some 9,some 8,some 7],[some 48,some 2,some 1,some 2],[some 4,some 4],[some 4,some 5]]
noncomputable def GoodRow (r:Row):Prop:=(∃ x,r=[x])∨r∈multis
noncomputable def W_apply_sgr_t:TF:=(tCmp .Lt (eVar 3) (eF1 lenV (eVar 4)))
noncomputable def W_apply_sgr_1:SF:=(sAsg 6 (eIdx (eVar 4) (eVar 3)))
noncomputable def W_apply_sgr_2:SF:=(sAsg 7 (eIf (tCmp .Is (eIdx (eVar 6) (eCst (.int 0))) (eCst .none)) (eCst G_SGR_RESET) (eIdx (eVar 6) (eCst (.int 0)))))
noncomputable def W_apply_sgr_3:SF:=(sIf (tCmp .Gt (eF1 lenV (eVar 6)) (eCst (.int 1))) (bCons (sAsg 2 (eCall F_pen_sub_changed [(eVar 2),(eVar 6)]))
  (bCons (sAug 3 .Add (eCst (.int 1)))
  bNil)) (bCons (sIf (tCmp .In (eVar 7) (eVar 5)) (bCons (sUnp [8,3] (eCall F_pen_told_apart [(eVar 4),(eVar 3)]))
  (bCons (sAsg 2 (eIf (tCmp .Is (eVar 8) (eCst .none)) (eVar 2) (eCall F_pen_with [(eVar 2),(eIdx (eVar 5) (eVar 7)),(eVar 8)])))
  bNil)) (bCons (sAsg 2 (eCall F_pen_plain_changed [(eVar 2),(eVar 7)]))
  (bCons (sAug 3 .Add (eCst (.int 1)))
  bNil)))
  bNil))
noncomputable def W_apply_sgr_b:SF:=bCons W_apply_sgr_1 (bCons W_apply_sgr_2 (bCons W_apply_sgr_3 bNil))
noncomputable def W_apply_sgr_h:SF→SF:=fun lp=>(bCons (sTup true [(.v 2 (eVar 0)),(.v 3 (eCst (.int 0)))])
  (bCons (sAsg 4 (eIf (tCmp .Gt (eF1 lenV (eVar 1)) (eCst (.int 0))) (eVar 1) (eL (lDisp [(eL (lDisp [(eCst .none)]))]))))
  (bCons (sAsg 5 (eDct [((eCst G_SGR_FORE),(eCst G_FORE)),((eCst G_SGR_BACK),(eCst G_BACK)),((eCst G_SGR_UNDER),(eCst G_UNDER))]))
  (bCons lp
  (bCons (sRet (eVar 2))
  bNil)))))
theorem W_apply_sgr_eq:F_apply_sgr_body=W_apply_sgr_h (sWhile 2000 W_apply_sgr_t W_apply_sgr_b):=rfl
noncomputable def W_law_seen_t:TF:=(tCmp .Lt (eVar 6) (eF1 lenV (eVar 5)))
noncomputable def W_law_seen_1:SF:=(sTup true [(.v 7 (eIdx (eVar 5) (eVar 6))),(.v 6 (eBin .Add (eVar 6) (eCst (.int 1))))])
noncomputable def W_law_seen_2:SF:=(sAsg 8 (eIf (tCmp .IsNot (eIdx (eVar 7) (eCst (.int 0))) (eCst .none)) (eIdx (eVar 7) (eCst (.int 0))) (eCst (.int 0))))
noncomputable def W_law_seen_3:SF:=(sIf (tCmp .In (eVar 8) (eTup [(eCst (.int 38)),(eCst (.int 48)),(eCst (.int 58))])) (bCons (sAsg 9 (eF2 indexV (eTup [(eCst (.int 38)),(eCst (.int 48)),(eCst (.int 58))]) (eVar 8)))
  (bCons (sIf (tCmp .Gt (eF1 lenV (eVar 7)) (eCst (.int 1))) (bCons (sAsg 10 (eCall F_law_hue [(eIdx (eVar 7) (eCst (.int 1))),(eIf (tAnd (tCmp .Eq (eIdx (eVar 7) (eCst (.int 1))) (eCst (.int 2))) (tCmp .Gt (eF1 lenV (eVar 7)) (eCst (.int 5)))) (eL (lSlc (eVar 7) (some (eCst (.int 3))) none)) (eL (lSlc (eVar 7) (some (eCst (.int 2))) none)))]))
  bNil) (bCons (sAsg 11 (eIf (tCmp .Lt (eVar 6) (eF1 lenV (eVar 5))) (eIdx (eIdx (eVar 5) (eVar 6)) (eCst (.int 0))) (eCst .none)))
  (bCons (sAsg 12 (eF3 getV (eDct [((eCst (.int 5)),(eCst (.int 1))),((eCst (.int 2)),(eCst (.int 3)))]) (eVar 11) (eCst (.int 0))))
  (bCons (sAsg 10 (eCall F_law_hue [(eVar 11),(eL (lCompA (iSeq (eL (lSlc (eVar 5) (some (eBin .Add (eVar 6) (eCst (.int 1)))) (some (eBin .Add (eBin .Add (eVar 6) (eCst (.int 1))) (eVar 12)))))) [] (eIdx (eVar 0) (eCst (.int 0)))))]))
  (bCons (sAsg 6 (eBin .Add (eBin .Add (eVar 6) (eCst (.int 1))) (eVar 12)))
  bNil)))))
  (bCons (sSetIdx 2 (eVar 9) (eIf (tCmp .Is (eVar 10) (eCst .none)) (eGetS 2 (eVar 9)) (eVar 10)))
  bNil))) (bCons (sIf (tCmp .Gt (eF1 lenV (eVar 7)) (eCst (.int 1))) (bCons (sIf (tAnd (tCmp .Eq (eVar 8) (eCst (.int 4))) (tAnd (tCmp .Eq (eF1 lenV (eVar 7)) (eCst (.int 2))) (tCmp .In (eIdx (eVar 7) (eCst (.int 1))) (eTup [(eCst (.int 0)),(eCst (.int 1)),(eCst (.int 2)),(eCst (.int 3)),(eCst (.int 4)),(eCst (.int 5))])))) (bCons (sAsg 4 (eIdx (eVar 7) (eCst (.int 1))))
  bNil) bNil)
  bNil) (bCons (sIf (tCmp .Eq (eVar 8) (eCst (.int 0))) (bCons (sTup true [(.l 2 (lDisp [(eUn .USub (eCst (.int 1))),(eUn .USub (eCst (.int 1))),(eUn .USub (eCst (.int 1)))])),(.v 3 (eCst (.int 0))),(.v 4 (eCst (.int 0)))])
  bNil) (bCons (sIf (tCmp .In (eVar 8) (eTup [(eCst (.int 4)),(eCst (.int 21)),(eCst (.int 24))])) (bCons (sAsg 4 (eIdx (eDct [((eCst (.int 4)),(eCst (.int 1))),((eCst (.int 21)),(eCst (.int 2))),((eCst (.int 24)),(eCst (.int 0)))]) (eVar 8)))
  bNil) (bCons (sIf (tCmp .In (eVar 8) (eCall F_law_turns [])) (bCons (sAsg 3 (eBin .BitAnd (eBin .BitOr (eVar 3) (eIdx (eIdx (eCall F_law_turns []) (eVar 8)) (eCst (.int 0)))) (eBin .Sub (eCst (.int 511)) (eIdx (eIdx (eCall F_law_turns []) (eVar 8)) (eCst (.int 1))))))
  bNil) (bCons (sFor [9,13,14] (iSeq (eTup [(eTup [(eCst (.int 0)),(eCst (.int 30)),(eCst (.int 90))]),(eTup [(eCst (.int 1)),(eCst (.int 40)),(eCst (.int 100))]),(eTup [(eCst (.int 2)),(eCst (.int 50)),(eCst (.int 999))])])) (bCons (sIf (tAnd (tCmp .Lt (eVar 9) (eCst (.int 2))) (tOr (tCmp2 .LtE .Lt (eVar 13) (eVar 8) (eBin .Add (eVar 13) (eCst (.int 8)))) (tCmp2 .LtE .Lt (eVar 14) (eVar 8) (eBin .Add (eVar 14) (eCst (.int 8)))))) (bCons (sSetIdx 2 (eVar 9) (eIf (tCmp .Lt (eVar 8) (eVar 14)) (eBin .Sub (eVar 8) (eVar 13)) (eBin .Add (eBin .Sub (eVar 8) (eVar 14)) (eCst (.int 8)))))
  bNil) bNil)
  (bCons (sIf (tCmp .Eq (eVar 8) (eBin .Add (eVar 13) (eCst (.int 9)))) (bCons (sSetIdx 2 (eVar 9) (eUn .USub (eCst (.int 1))))
  bNil) bNil)
  bNil)))
  bNil))
  bNil))
  bNil))
  bNil))
  bNil))
noncomputable def W_law_seen_b:SF:=bCons W_law_seen_1 (bCons W_law_seen_2 (bCons W_law_seen_3 bNil))
noncomputable def W_law_seen_h:SF→SF:=fun lp=>(bCons (sTup true [(.l 2 (lOf (eSlc (eVar 0) (some (eCst (.int 1))) (some (eCst (.int 4)))))),(.v 3 (eBin .Mod (eIdx (eVar 0) (eCst (.int 0))) (eCst (.int 512)))),(.v 4 (eBin .FloorDiv (eIdx (eVar 0) (eCst (.int 0))) (eCst (.int 512))))])
  (bCons (sTup true [(.v 5 (eCall F_law_parted [(eVar 1)])),(.v 6 (eCst (.int 0)))])
  (bCons lp
  (bCons (sRet (eTup [(eBin .Add (eVar 3) (eBin .Mult (eCst (.int 512)) (eVar 4))),(eGetS 2 (eCst (.int 0))),(eGetS 2 (eCst (.int 1))),(eGetS 2 (eCst (.int 2))),(eIdx (eVar 0) (eCst (.int 4)))]))
  bNil))))
theorem W_law_seen_eq:F_law_seen_body=W_law_seen_h (sWhile 2000 W_law_seen_t W_law_seen_b):=rfl
noncomputable def W_decimal_octets_t:TF:=(tCmp .Gt (eVar 1) (eCst (.int 0)))
noncomputable def W_decimal_octets_1:SF:=(sApp 2 (eBin .Add (eCst (.int 48)) (eBin .Mod (eVar 1) (eCst (.int 10)))))
noncomputable def W_decimal_octets_2:SF:=(sAsg 1 (eBin .FloorDiv (eVar 1) (eCst (.int 10))))
noncomputable def W_decimal_octets_b:SF:=bCons W_decimal_octets_1 (bCons W_decimal_octets_2 bNil)
noncomputable def W_decimal_octets_h:SF→SF:=fun lp=>(bCons (sAsg 1 (eIf (tCmp .GtE (eVar 0) (eCst (.int 0))) (eVar 0) (eUn .USub (eVar 0))))
  (bCons (sAsgL 2 (lDisp [(eBin .Add (eCst (.int 48)) (eBin .Mod (eVar 1) (eCst (.int 10))))]))
  (bCons (sAsg 1 (eBin .FloorDiv (eVar 1) (eCst (.int 10))))
  (bCons lp
  (bCons (sIf (tCmp .Lt (eVar 0) (eCst (.int 0))) (bCons (sApp 2 (eCst (.int 45)))
  bNil) bNil)
  (bCons (sRet (eF1 bytesV (eL (lRev (eVar 2)))))
  bNil))))))
theorem W_decimal_octets_eq:F_decimal_octets_body=W_decimal_octets_h (sWhile 2000 W_decimal_octets_t W_decimal_octets_b):=rfl
end Mine.P
end
section
open PySem
namespace Mine.P
noncomputable def flRaw:Act→Int→Int
  | .reset,_=>0
  | .under k,x=>Builtin.bitOr (Builtin.bitAnd x (-3585)) ((k*512:Nat):Int)
  | .set m,x=>Builtin.bitOr x (m:Int)
  | .clear 3,x=>Builtin.bitAnd (Builtin.bitAnd x (-2)) (-3)
  | .clear 24,x=>Builtin.bitAnd (Builtin.bitAnd x (-9)) (-17)
  | .clear m,x=>Builtin.bitAnd x (-(m:Int) - 1)
  | _,x=>x
noncomputable def rawPen (a:Act) (x f b u k:Int):V:=match a with
  | .reset=> .tup [.int 0,.int (-1),.int (-1),.int (-1),.int k]
  | .fore c=> .tup [.int x,.int c,.int b,.int u,.int k]
  | .back c=> .tup [.int x,.int f,.int c,.int u,.int k]
  | .unc=> .tup [.int x,.int f,.int b,.int (-1),.int k]
  | a=> .tup [.int (flRaw a x),.int f,.int b,.int u,.int k]
noncomputable def loRaw:Act→Int→Int
  | .reset,_=>0
  | .set m,x=>Builtin.bitAnd (Builtin.bitOr x (m:Int)) 511
  | .clear m,x=>Builtin.bitAnd (Builtin.bitOr x 0) (511 - (m:Int))
  | _,x=>x
noncomputable def setL:List Nat:=[1,2,4,8,16,32,64,128,256]
noncomputable def clearL:List Nat:=[3,4,24,32,64,128,256]
noncomputable def actOk (a:Act):Bool:=match a with
  | .reset | .unc | .nop=>true
  | .fore c | .back c=>decide (c= -1∨(0≤c∧c<256))
  | .under k=>decide (k<6)
  | .set m=>setL.contains m
  | .clear m=>clearL.contains m
theorem and_low {lo ln m:Nat} (h:lo<512) (hm:m<512):(lo+512*ln) &&& m=lo &&& m:=by
  apply Nat.eq_of_testBit_eq
  intro i
  have e:lo+512*ln=2 ^ 9*ln+lo:=by lia
  rw [Nat.testBit_and,Nat.testBit_and,e,Nat.testBit_two_pow_mul_add _ (show lo<2 ^ 9 by lia)]
  by_cases hi:i<9
  · rw [if_pos hi]
  · have:m.testBit i=false:=Nat.testBit_lt_two_pow (Nat.lt_of_lt_of_le hm (Nat.pow_le_pow_right (n:=2) (by decide) (by lia:9≤i)))
    rw [this,Bool.and_false,Bool.and_false]
theorem or_low {lo ln m:Nat} (h:lo<512) (hm:m<512):(lo+512*ln) ||| m=(lo ||| m)+512*ln:=by
  have h':lo ||| m<2 ^ 9:=Nat.or_lt_two_pow (n:=9) h hm
  apply Nat.eq_of_testBit_eq
  intro i
  have e:lo+512*ln=2 ^ 9*ln+lo:=by lia
  have e':(lo ||| m)+512*ln=2 ^ 9*ln+(lo ||| m):=by lia
  rw [Nat.testBit_or,e,e',Nat.testBit_two_pow_mul_add _ (show lo<2 ^ 9 by lia),Nat.testBit_two_pow_mul_add _ h']
  by_cases hi:i<9
  · rw [if_pos hi,if_pos hi,Nat.testBit_or]
  · have:m.testBit i=false:=Nat.testBit_lt_two_pow (Nat.lt_of_lt_of_le hm (Nat.pow_le_pow_right (n:=2) (by decide) (by lia:9≤i)))
    rw [if_neg hi,if_neg hi,this,Bool.or_false]
theorem bitNot_neg (m:Nat):Builtin.bitNot (-(m:Int) - 1)=(m:Int):=by unfold Builtin.bitNot;lia
theorem bitAnd_nn (a b:Nat):Builtin.bitAnd (a:Int) (b:Int)=((a &&& b:Nat):Int):=by
  unfold Builtin.bitAnd
  rw [decide_eq_true (by lia:(0:Int)≤a),decide_eq_true (by lia:(0:Int)≤b)]
  rfl
theorem bitAnd_clear (a m:Nat):Builtin.bitAnd (a:Int) (-(m:Int) - 1)=((a - (a &&& m):Nat):Int):=by
  unfold Builtin.bitAnd
  rw [decide_eq_true (by lia:(0:Int)≤a),decide_eq_false (by lia: ¬ (0:Int)≤ -(m:Int) - 1)]
  dsimp only
  rw [bitNot_neg,Int.toNat_natCast,Int.toNat_natCast]
  have:=Nat.and_le_left (n:=a) (m:=m)
  lia
theorem bitOr_nn (a b:Nat):Builtin.bitOr (a:Int) (b:Int)=((a ||| b:Nat):Int):=by
  have e:∀ n:Nat,Builtin.bitNot (n:Int)= -(n:Int) - 1:=fun n=>rfl
  have t:∀ n:Nat,(Builtin.bitNot (-(n:Int) - 1)).toNat=n:=fun n=>by rw [bitNot_neg];rfl
  unfold Builtin.bitOr Builtin.bitAnd
  rw [e,e,decide_eq_false (by lia: ¬ (0:Int)≤ -(a:Int) - 1),decide_eq_false (by lia: ¬ (0:Int)≤ -(b:Int) - 1)]
  dsimp only
  rw [t,t,e,bitNot_neg]
noncomputable def clrChk:Bool:=clearL.all fun m=>(List.range 512).all fun lo=>lo - (lo &&& m)==lo &&& (511 - m)
theorem clrChk_all:clrChk=true:=by kernel_rfl
theorem clr_low {lo m:Nat} (h:lo<512) (hm:m∈clearL):lo - (lo &&& m)=lo &&& (511 - m):=
  beq_iff_eq.mp (List.all_eq_true.mp (List.all_eq_true.mp clrChk_all m hm) lo (List.mem_range.mpr h))
theorem set_lt {m:Nat} (hm:m∈setL):m<512:=by
  simp only [setL,List.mem_cons,List.not_mem_nil,or_false] at hm;lia
theorem clear_lt {m:Nat} (hm:m∈clearL):m<512:=by
  simp only [clearL,List.mem_cons,List.not_mem_nil,or_false] at hm;lia
noncomputable def Col (c:Int):Prop:=c= -1∨(0≤c∧c<256)∨(16777216≤c∧c<33554432)
structure WF (p:Pen):Prop where
  lo:p.lo<512
  ln:p.ln<6
  f:Col p.f
  b:Col p.b
  u:Col p.u
theorem flV_nat (p:Pen):flV p=((p.lo+512*p.ln:Nat):Int):=by simp [flV]
theorem clr_fl {p:Pen} (h:p.lo<512) {m:Nat} (hm:m∈clearL):Builtin.bitAnd (flV p) (-(m:Int) - 1)=flV { p with lo:=p.lo &&& (511 - m)}:=by
  rw [flV_nat,flV_nat,bitAnd_clear,and_low h (clear_lt hm),← clr_low h hm]
  have:=Nat.and_le_left (n:=p.lo) (m:=m)
  congr 1
  show _=p.lo - (p.lo &&& m)+512*p.ln
  lia
noncomputable def bit1 (m:Nat):Bool:=(List.range 512).all fun lo=>lo - (lo &&& m)==lo &&& (511 - m)
theorem bit1_all:(setL.all bit1)=true:=by kernel_rfl
theorem clr_fl1 {p:Pen} (h:p.lo<512) {m:Nat} (hm:m∈setL):Builtin.bitAnd (flV p) (-(m:Int) - 1)=flV { p with lo:=p.lo &&& (511 - m)}:=by
  have h1:p.lo - (p.lo &&& m)=p.lo &&& (511 - m):=beq_iff_eq.mp (List.all_eq_true.mp (List.all_eq_true.mp bit1_all m hm) p.lo (List.mem_range.mpr h))
  rw [flV_nat,flV_nat,bitAnd_clear,and_low h (set_lt hm),← h1]
  have:=Nat.and_le_left (n:=p.lo) (m:=m)
  congr 1
  show _=p.lo - (p.lo &&& m)+512*p.ln
  lia
theorem set_fl {p:Pen} (h:p.lo<512) {m:Nat} (hm:m<512):Builtin.bitOr (flV p) (m:Int)=flV { p with lo:=p.lo ||| m}:=by
  rw [flV_nat,flV_nat,bitOr_nn,or_low h hm]
theorem under_fl {p:Pen} (w:WF p) {k:Nat}:Builtin.bitOr (Builtin.bitAnd (flV p) (-3585)) ((k*512:Nat):Int)=flV { p with ln:=k}:=by
  have e:(p.lo+512*p.ln) &&& 3584=512*p.ln:=by
    apply Nat.eq_of_testBit_eq
    intro i
    have e1:(p.lo+512*p.ln).testBit i=if i<9 then p.lo.testBit i else p.ln.testBit (i - 9):=by
      rw [show p.lo+512*p.ln=2 ^ 9*p.ln+p.lo by lia,Nat.testBit_two_pow_mul_add _ (show p.lo<2 ^ 9 from w.lo)]
    have e2:(3584:Nat).testBit i=if i<9 then (0:Nat).testBit i else (7:Nat).testBit (i - 9):=by
      rw [show (3584:Nat)=2 ^ 9*7+0 from rfl,Nat.testBit_two_pow_mul_add _ (show 0<2 ^ 9 by decide)]
    have e3:(512*p.ln).testBit i=if i<9 then (0:Nat).testBit i else p.ln.testBit (i - 9):=by
      rw [show 512*p.ln=2 ^ 9*p.ln+0 by lia,Nat.testBit_two_pow_mul_add _ (show 0<2 ^ 9 by decide)]
    rw [Nat.testBit_and,e1,e2,e3]
    by_cases hi:i<9
    · simp [hi]
    · simp only [if_neg hi]
      have hl:=w.ln
      by_cases h3:i - 9<3
      · have:(7:Nat).testBit (i - 9)=true:=by
          rcases (by lia:i - 9=0∨i - 9=1∨i - 9=2) with h | h | h <;> rw [h] <;> decide
        rw [this,Bool.and_true]
      · have:p.ln.testBit (i - 9)=false:=Nat.testBit_lt_two_pow (Nat.lt_of_lt_of_le (show p.ln<2 ^ 3 by lia) (Nat.pow_le_pow_right (n:=2) (by decide) (by lia:3≤i - 9)))
        rw [this,Bool.false_and]
  have e0:(-3585:Int)= -((3584:Nat):Int) - 1:=rfl
  rw [flV_nat,flV_nat,e0,bitAnd_clear,e,bitOr_nn]
  congr 1
  show (p.lo+512*p.ln - 512*p.ln) ||| k*512=p.lo+512*k
  have h1:p.lo+512*p.ln - 512*p.ln=p.lo:=by lia
  have h2:=Nat.two_pow_add_eq_or_of_lt (i:=9) (show p.lo<2 ^ 9 from w.lo) k
  rw [h1,Nat.or_comm]
  have h3:k*512=2 ^ 9*k:=by lia
  rw [h3,← h2]
  lia
noncomputable def twoChk:Bool:=(List.range 512).all fun lo=>(lo &&& 510) &&& 509==lo &&& 508 && (lo &&& 503) &&& 495==lo &&& 487
theorem twoChk_all:twoChk=true:=by kernel_rfl
theorem two_low {lo:Nat} (h:lo<512):(lo &&& 510) &&& 509=lo &&& 508∧(lo &&& 503) &&& 495=lo &&& 487:=by
  have:=Bool.and_eq_true_iff.mp (List.all_eq_true.mp twoChk_all lo (List.mem_range.mpr h))
  exact ⟨beq_iff_eq.mp this.1,beq_iff_eq.mp this.2⟩
theorem and_lt {a b:Nat} (h:a<512):a &&& b<512:=Nat.lt_of_le_of_lt Nat.and_le_left h
theorem fl_of {a:Act} (h:actOk a=true) (h':match a with | .under _ | .set _ | .clear _=>True | _=>False) {p:Pen} (w:WF p):flRaw a (flV p)=flV (doAct a p):=by
  cases a with
  | under k=>exact under_fl w
  | set m=>exact set_fl w.lo (set_lt (by simpa [actOk] using h))
  | clear m=>
    have hm:m∈clearL:=by simpa [actOk] using h
    have hm':=hm
    simp only [clearL,List.mem_cons,List.not_mem_nil,or_false] at hm'
    have s1:=fun q:Pen=>fun hq:q.lo<512=>fun m=>fun hm=> @clr_fl1 q hq m hm
    rcases hm' with rfl | rfl | rfl | rfl | rfl | rfl | rfl
    · show Builtin.bitAnd (Builtin.bitAnd (flV p) (-((1:Nat):Int) - 1)) (-((2:Nat):Int) - 1)=_
      rw [s1 p w.lo 1 (by decide),s1 _ (and_lt w.lo) 2 (by decide)]
      show flV { p with lo:=(p.lo &&& 510) &&& 509}=flV { p with lo:=p.lo &&& 508}
      rw [(two_low w.lo).1]
    · exact clr_fl w.lo hm
    · show Builtin.bitAnd (Builtin.bitAnd (flV p) (-((8:Nat):Int) - 1)) (-((16:Nat):Int) - 1)=_
      rw [s1 p w.lo 8 (by decide),s1 _ (and_lt w.lo) 16 (by decide)]
      show flV { p with lo:=(p.lo &&& 503) &&& 495}=flV { p with lo:=p.lo &&& 487}
      rw [(two_low w.lo).2]
    · exact clr_fl w.lo hm
    · exact clr_fl w.lo hm
    · exact clr_fl w.lo hm
    · exact clr_fl w.lo hm
  | _=>exact h'.elim
theorem and_511 {a:Nat} (h:a<512):a &&& 511=a:=by
  have:=Nat.and_two_pow_sub_one_eq_mod a 9
  rw [show 511=2 ^ 9 - 1 from rfl,this];exact Nat.mod_eq_of_lt h
theorem lo_of {a:Act} (h:actOk a=true) (h':match a with | .under _ | .set _ | .clear _=>True | _=>False) {p:Pen} (w:WF p):loRaw a (p.lo:Int)=((doAct a p).lo:Int)∧(doAct a p).lo<512:=by
  cases a with
  | under k=>exact ⟨rfl,w.lo⟩
  | set m=>
    have hm:=set_lt (m:=m) (by simpa [actOk] using h)
    have hl:p.lo ||| m<512:=Nat.or_lt_two_pow (n:=9) w.lo hm
    refine ⟨?_,hl⟩
    show Builtin.bitAnd (Builtin.bitOr (p.lo:Int) (m:Int)) ((511:Nat):Int)=((p.lo ||| m:Nat):Int)
    rw [bitOr_nn,bitAnd_nn,and_511 hl]
  | clear m=>
    have hm:=clear_lt (m:=m) (by simpa [actOk] using h)
    refine ⟨?_,and_lt w.lo⟩
    show Builtin.bitAnd (Builtin.bitOr (p.lo:Int) ((0:Nat):Int)) (511 - (m:Int))=((p.lo &&& (511 - m):Nat):Int)
    rw [bitOr_nn,show (511 - (m:Int))=((511 - m:Nat):Int) by lia,bitAnd_nn,Nat.or_zero]
  | _=>exact h'.elim
theorem act_lt:(List.range 108).all (fun n=>actOk (act n))=true:=by kernel_rfl
theorem act_ge {n:Nat} (h:108≤n):act n= .nop:=by
  unfold act
  repeat (rw [if_neg (by lia)])
theorem act_ok (n:Nat):actOk (act n)=true:=by
  by_cases h:n<108
  · exact List.all_eq_true.mp act_lt n (List.mem_range.mpr h)
  · rw [act_ge (by lia)];rfl
theorem wf_act {a:Act} (h:actOk a=true) {p:Pen} (w:WF p):WF (doAct a p):=by
  have hc:∀ c:Int,(c= -1∨(0≤c∧c<256))→Col c:=fun c x=>by unfold Col;lia
  cases a with
  | reset=>exact ⟨by simp [doAct],by simp [doAct],.inl rfl,.inl rfl,.inl rfl⟩
  | unc=>exact ⟨w.lo,w.ln,w.f,w.b,.inl rfl⟩
  | nop=>exact w
  | fore c=>exact ⟨w.lo,w.ln,hc c (of_decide_eq_true h),w.b,w.u⟩
  | back c=>exact ⟨w.lo,w.ln,w.f,hc c (of_decide_eq_true h),w.u⟩
  | under k=>exact ⟨w.lo,of_decide_eq_true h,w.f,w.b,w.u⟩
  | set m=>exact ⟨(lo_of h trivial w).2,w.ln,w.f,w.b,w.u⟩
  | clear m=>exact ⟨(lo_of h trivial w).2,w.ln,w.f,w.b,w.u⟩
theorem wf_plain (n:Nat) {p:Pen} (w:WF p):WF (plain n p):=wf_act (act_ok n) w
theorem ppc_lt (x f b u k:Int):(List.range 108).map (fun n=>F_pen_plain_changed [.tup [.int x,.int f,.int b,.int u,.int k],.int ((n:Nat):Int)])=(List.range 108).map (fun n=>some (rawPen (act n) x f b u k)):=by kernel_rfl
theorem ppc_ge (x f b u k:Int) (n:Int) (h:108≤n):F_pen_plain_changed [.tup [.int x,.int f,.int b,.int u,.int k],.int n]=some (.tup [.int x,.int f,.int b,.int u,.int k]):=by
  have hne:∀ c:Int,c<108→(n==c)=false:=fun c hc=>by simp;lia
  have hle:∀ c:Int,c<108→decide (n≤c)=false:=fun c hc=>by simp;lia
  have hge:∀ c:Int,c≤108→decide (c≤n)=true:=fun c hc=>by simp;lia
  have hbits:F_pen_bits []=some (.tup [.tup [.int 1,.int 1,.int 22],.tup [.int 2,.int 2,.int 22],.tup [.int 4,.int 3,.int 23],.tup [.int 8,.int 5,.int 25],.tup [.int 16,.int 6,.int 25],.tup [.int 32,.int 7,.int 27],.tup [.int 64,.int 8,.int 28],.tup [.int 128,.int 9,.int 29],.tup [.int 256,.int 53,.int 55]]):=by kernel_rfl
  have hpw:F_pen_with [.tup [.int x,.int f,.int b,.int u,.int k],.int 0,.int x]=some (.tup [.int x,.int f,.int b,.int u,.int k]):=by kernel_rfl
  have hlim:∀ m:Nat,m<100→m≤lim:=fun m hm=>by unfold lim;lia
  simp only [F_pen_plain_changed,runV,F_pen_plain_changed_body,hne,hle,hge,hbits,hpw,hlim,List.map_cons,List.map_nil,List.length_cons,List.length_nil,bCons,bNil,sAsg,sIf,sFor,forLoop_c,forLoop_n,bindT2,iSeq,itemsV,eTup,evs,eCst,eVar,eIdx,idxV,tCmp,tCmp2,tOr,cmpV,i2B,eqV,eBin,binV,addV,i2V,unV,eUn,eCall,sRet,sAug,truV,Option.bind_eq_bind,Option.bind_some,Nat.zero_add,Nat.reduceAdd,Nat.reduceSub,List.replicate,List.cons_append,List.nil_append,List.getElem?_cons_zero,List.getElem?_cons_succ,List.set_cons_zero,List.set_cons_succ,Int.reduceAdd,Int.reduceSub,Int.reduceNeg,Int.reduceLT,Int.reduceLE,Nat.reduceLT,Bool.false_eq_true,if_false,if_true,ite_self,and_self,Int.toNat_zero,List.zip_cons_cons,List.zip_nil_right,List.foldl_cons,List.foldl_nil,Int.reduceToNat,Int.le_refl,G_NO_COLOUR,G_PLAIN,G_FLAGS,G_FORE,G_BACK,G_UNDER,G_LINK,G_SGR_RESET,G_FIRST_BRIGHT]
theorem rawPen_of {a:Act} (h:actOk a=true) {p:Pen} (w:WF p):rawPen a (flV p) p.f p.b p.u p.k=penV (doAct a p):=by
  cases a with
  | reset=>rfl
  | unc=>rfl
  | nop=>rfl
  | fore c=>rfl
  | back c=>rfl
  | under k=>simp only [rawPen,fl_of h trivial w];rfl
  | set m=>simp only [rawPen,fl_of h trivial w];rfl
  | clear m=>simp only [rawPen,fl_of h trivial w];rfl
theorem ppc (n:Nat) {p:Pen} (w:WF p):F_pen_plain_changed [penV p,.int (n:Int)]=some (penV (plain n p)):=by
  by_cases h:n<108
  · have:=List.map_inj_left.mp (ppc_lt (flV p) p.f p.b p.u p.k) n (List.mem_range.mpr h)
    unfold penV plain
    rw [this,rawPen_of (act_ok n) w]
    rfl
  · have:=ppc_ge (flV p) p.f p.b p.u p.k n (by lia)
    unfold plain
    rw [act_ge (by lia)]
    exact this
noncomputable def isElse (a:Act):Bool:=match a with
  | .fore _ | .back _ | .unc | .nop=>true
  | _=>false
noncomputable def huesRaw (a:Act) (f b u:Int):List V:=match a with
  | .reset=>[.int (-1),.int (-1),.int (-1)]
  | .fore c=>[.int c,.int b,.int u]
  | .back c=>[.int f,.int c,.int u]
  | .unc=>[.int f,.int b,.int (-1)]
  | _=>[.int f,.int b,.int u]
noncomputable def lnRaw (a:Act) (ln:Int):Int:=match a with
  | .reset=>0
  | .under k=>(k:Int)
  | _=>ln
theorem seen3_lt (look oct rows:V) (f b u lo ln i:Int) (r:V) (s9 s10 s11 s12 s13 s14:Slot):
    ((List.range 108).filter (fun n=>n != 38 && n != 48 && n != 58)).map (fun n=>W_law_seen_3 [.val look,.val oct,.own [.int f,.int b,.int u],.val (.int lo),.val (.int ln),.val rows,.val (.int i),.val (.lst [r]),.val (.int ((n:Nat):Int)),s9,s10,s11,s12,s13,s14])=
    ((List.range 108).filter (fun n=>n != 38 && n != 48 && n != 58)).map (fun n=>some (Fl.next,[.val look,.val oct,.own (huesRaw (act n) f b u),.val (.int (loRaw (act n) lo)),.val (.int (lnRaw (act n) ln)),.val rows,.val (.int i),.val (.lst [r]),.val (.int ((n:Nat):Int)),
      (if isElse (act n) then .val (.int 2) else s9),s10,s11,s12,(if isElse (act n) then .val (.int 50) else s13),(if isElse (act n) then .val (.int 999) else s14)])):=by kernel_rfl
theorem seen3_ge (look oct rows:V) (f b u lo ln i:Int) (r:V) (s9 s10 s11 s12 s13 s14:Slot) (n:Int) (h:108≤n):
    W_law_seen_3 [.val look,.val oct,.own [.int f,.int b,.int u],.val (.int lo),.val (.int ln),.val rows,.val (.int i),.val (.lst [r]),.val (.int n),s9,s10,s11,s12,s13,s14]=
    some (Fl.next,[.val look,.val oct,.own [.int f,.int b,.int u],.val (.int lo),.val (.int ln),.val rows,.val (.int i),.val (.lst [r]),.val (.int n),.val (.int 2),s10,s11,s12,.val (.int 50),.val (.int 999)]):=by
  have hne:∀ c:Int,c<108→(n==c)=false:=fun c hc=>by simp;lia
  have hne':∀ c:Int,c<108→(c==n)=false:=fun c hc=>by simp;lia
  have hlt:∀ c:Int,c≤108→decide (n<c)=false:=fun c hc=>by simp;lia
  have hge:∀ c:Int,c≤108→decide (c≤n)=true:=fun c hc=>by simp;lia
  obtain ⟨tv,hturns⟩:∃ tv,F_law_turns []=some (.dct [1,2,3,5,6,7,8,9,53,22,23,25,27,28,29,55] tv):=⟨match F_law_turns [] with | some (.dct _ vs)=>vs | _=>[],by kernel_rfl⟩
  have hlim:∀ m:Nat,m<100→m≤lim:=fun m hm=>by unfold lim;lia
  have h11:decide (((1:Nat):Int)>1)=false:=rfl
  simp only [W_law_seen_3,inV,intsOf,List.contains_cons,List.contains_nil,Bool.or_false,hne,hlt,hge,hturns,hlim,List.length_cons,List.length_nil,bCons,bNil,sAsg,sIf,sFor,forLoop_c,forLoop_n,bindT2,iSeq,itemsV,eTup,evs,eCst,eVar,eIdx,idxV,tCmp,tCmp2,tOr,tAnd,eIf,cmpV,i2B,isV,eqV,eBin,binV,addV,i2V,unV,eUn,eCall,eF1,eF2,eF3,eL,lDisp,sTup,partsRun,Part.run,sSetIdx,truV,lenV,listS,eGetS,Option.bind_eq_bind,Option.bind_some,Nat.zero_add,Nat.reduceAdd,List.cons_append,List.nil_append,List.getElem?_cons_zero,List.getElem?_cons_succ,List.set_cons_zero,List.set_cons_succ,Int.reduceAdd,Int.reduceNeg,Int.reduceLT,Int.reduceLE,Nat.reduceLT,Bool.false_eq_true,if_false,if_true,ite_self,and_self,Int.toNat_zero,List.zip_cons_cons,List.zip_nil_right,List.foldl_cons,List.foldl_nil,Int.reduceToNat,Option.map_some,Int.le_refl,Bool.not_true,decide_true,decide_false,List.reverse_cons,List.reverse_nil,Int.reduceBEq,Int.reduceGT,Int.cast_ofNat_Int]
end Mine.P
end
section
open PySem
namespace Mine.P
theorem clip_nat (n a:Nat):clipAt n (a:Int)=min a n:=by
  unfold clipAt;split <;> lia
theorem cut_nat {α:Type} (l:List α) (a b:Nat):cut l (some (a:Int)) (some (b:Int))=(l.drop a).take (b - a):=by
  unfold cut
  simp only [Option.elim_some,clip_nat]
  apply List.ext_getElem?
  intro j
  simp only [List.getElem?_take,List.getElem?_drop]
  by_cases h1:a≤l.length
  · rw [Nat.min_eq_left h1]
    by_cases h2:b≤l.length
    · rw [Nat.min_eq_left h2]
    · rw [Nat.min_eq_right (by lia)]
      by_cases h3:j<l.length - a
      · rw [if_pos h3,if_pos (by lia)]
      · rw [if_neg h3]
        split
        · exact (List.getElem?_eq_none (by lia)).symm
        · rfl
  · rw [List.getElem?_eq_none (by lia),List.getElem?_eq_none (by omega +splitDisjunctions)]
    simp
theorem cut_from {α:Type} (l:List α) (a:Nat):cut l (some (a:Int)) none=l.drop a:=by
  unfold cut
  simp only [Option.elim_some,Option.elim_none,clip_nat]
  apply List.ext_getElem?
  intro j
  simp only [List.getElem?_take,List.getElem?_drop]
  by_cases h1:a≤l.length
  · rw [Nat.min_eq_left h1]
    split
    · rfl
    · exact (List.getElem?_eq_none (by lia)).symm
  · rw [List.getElem?_eq_none (by lia),List.getElem?_eq_none (by lia)]
    simp
theorem cut_to {α:Type} (l:List α) (b:Nat):cut l none (some (b:Int))=l.take b:=by
  unfold cut
  simp only [Option.elim_some,Option.elim_none,clip_nat,List.drop_zero,Nat.sub_zero]
  by_cases h:b≤l.length
  · rw [Nat.min_eq_left h]
  · rw [Nat.min_eq_right (by lia),List.take_of_length_le (by lia:l.length≤b),List.take_length]
theorem smallO_nat {n:Nat} (h:n≤1000000):smallO (some (n:Int))=true:=by
  unfold smallO small
  have:((n:Int)).natAbs=n:=Int.natAbs_natCast n
  dsimp only
  rw [this]
  exact decide_eq_true (by lia)
theorem compLoop_map {elt:EF} {g:V→V}:∀ (items:List V) (s:Slot),(∀ d∈items,elt [.val d]=some (g d,[.val d]))→∃ s',compLoop [0] [] elt items [s]=some (items.map g,[s'])
  | [],s,_=>⟨s,rfl⟩
  | d::r,s,h=>by
    refine x11 (compLoop_map r (.val d) fun d hd=>h d (.tail _ hd)) ?_;intro s' e
    refine ⟨s',?_⟩
    simp only [compLoop_c,bindT1,tests,List.set_cons_zero,Option.bind_eq_bind,Option.bind_some,if_true,h d (.head _),e,List.map_cons]
theorem comp_map {it:LF} {elt:EF} {g:V→V} {items:List V} {st st':St} (hi:it st=some (items,st')) (h:∀ d∈items,elt [.val d]=some (g d,[.val d])) (hl:items.length≤lim):lCompA it [] elt st=some (items.map g,st'):=by
  refine x11 (compLoop_map items .unset h) ?_;intro s' e
  simp only [lCompA,hi,e,Option.bind_eq_bind,Option.bind_some,List.length_map,if_pos hl]
theorem comp_zero {i:Nat} {st:St} {ps:List (Option Nat)} (hi:st[i]? =some (.val (.lst (ps.map pv)))) (hl:ps.length≤lim):
    lCompA (iSeq (eVar i)) [] (eIf (tCmp .Is (eVar 0) (eCst .none)) (eCst (.int 0)) (eVar 0)) st=some (ps.map (fun x=> .int ((x.getD 0:Nat):Int)),st):=by
  have:=comp_map (it:=iSeq (eVar i)) (elt:=eIf (tCmp .Is (eVar 0) (eCst .none)) (eCst (.int 0)) (eVar 0)) (g:=fun d=>match d with | .none=> .int 0 | d=>d) (items:=ps.map pv) (st:=st) (st':=st)
    (by simp only [iSeq,eVar,hi,itemsV,List.length_map,Option.bind_eq_bind,Option.bind_some,if_pos hl]) (by
      intro d hd
      refine x12 (List.mem_map.mp hd) ?_;intro x _ hq2;subst hq2
      induction x using Option.casesOn <;> rfl) (by simpa using hl)
  rw [this,List.map_map]
  congr 2
  apply List.map_congr_left
  intro x _
  induction x using Option.casesOn <;> rfl
theorem comp_head {it:LF} {L:List Row} {st st':St} (hi:it st=some (L.map rowV,st')) (hn:∀ r∈L,r≠[]) (hr:∀ r∈L,r.length≤lim) (hl:L.length≤lim):
    lCompA it [] (eIdx (eVar 0) (eCst (.int 0))) st=some ((heads L).map pv,st'):=by
  have:=comp_map (elt:=eIdx (eVar 0) (eCst (.int 0))) (g:=fun d=>match d with | .lst (v::_)=>v | d=>d) hi (by
      intro d hd
      refine x12 (List.mem_map.mp hd) ?_;intro r hr' hq2;subst hq2
      have h1:=hn r hr'
      have h2:=hr r hr'
      induction r using List.casesOn with
      | nil=>exact absurd rfl h1
      | cons x t=>
        have:(t.map pv).length+1≤lim:=by simpa using h2
        simp only [rowV,this,List.map_cons,List.length_cons,eCst,eVar,eIdx,idxV,Option.bind_eq_bind,Option.bind_some,List.getElem?_cons_zero,if_true,and_self,Int.toNat_zero,Int.le_refl]) (by simpa using hl)
  rw [this,heads,List.map_map,List.map_map]
  congr 2
  apply List.map_congr_left
  intro r hr'
  have h1:=hn r hr'
  induction r using List.casesOn with
  | nil=>exact absurd rfl h1
  | cons x t=>rfl
theorem lim_ge {n:Nat} (h:n≤1000000):n≤lim:=h
theorem eL_of {l:LF} {st st':St} {xs:List V} (h:l st=some (xs,st')):eL l st=some (.lst xs,st'):=by
  simp only [eL,h,Option.bind_eq_bind,Option.bind_some]
theorem bCons_asg {i:Nat} {e:EF} {r:SF} {st st':St} {d:V} (h:e st=some (d,st')):bCons (sAsg i e) r st=r (st'.set i (.val d)):=by
  simp only [bCons,sAsg,h,Option.bind_eq_bind,Option.bind_some]
theorem bCons_next {f r:SF} {st st':St} (h:f st=some (.next,st')):bCons f r st=r st':=by
  simp only [bCons,h,Option.bind_eq_bind,Option.bind_some]
theorem bCons_ret {f r:SF} {st st':St} {d:V} (h:f st=some (.ret d,st')):bCons f r st=some (.ret d,st'):=by
  simp only [bCons,h,Option.bind_eq_bind,Option.bind_some]
theorem hue_law_rest (k:Option Nat) (ps:List (Option Nat)) (h:ps.length≤manyOf k) (rest:SF) (hr:∀ st,F_law_hue_body st=bCons (sAsg 2 (eL (lCompA (iSeq (eVar 1)) [] (eIf (tCmp .Is (eVar 0) (eCst .none)) (eCst (.int 0)) (eVar 0))))) rest st):
    F_law_hue [pv k,.lst (ps.map pv)]=(rest [.val (pv k),.val (.lst (ps.map pv)),.val (.lst (ps.map (fun x=> .int ((x.getD 0:Nat):Int)))),.unset]).bind (fun x=>match x.1 with | .ret d=>some d | .next=>some .none):=by
  have hm:manyOf k≤3:=by unfold manyOf;split <;> lia
  have hc:=comp_zero (i:=1) (st:=[.val (pv k),.val (.lst (ps.map pv)),.unset,.unset]) (ps:=ps) rfl (lim_ge (by lia))
  have e:F_law_hue [pv k,.lst (ps.map pv)]=(F_law_hue_body [.val (pv k),.val (.lst (ps.map pv)),.unset,.unset]).bind (fun x=>match x.1 with | .ret d=>some d | .next=>some .none):=rfl
  rw [e,hr,bCons_asg (eL_of hc)]
  rfl
theorem hue_pen_rest (k:Option Nat) (ps:List (Option Nat)) (h:ps.length≤manyOf k) (rest:SF) (hr:∀ st,F_pen_colour_of_body st=bCons (sAsg 2 (eL (lCompA (iSeq (eVar 1)) [] (eIf (tCmp .Is (eVar 0) (eCst .none)) (eCst (.int 0)) (eVar 0))))) rest st):
    F_pen_colour_of [pv k,.lst (ps.map pv)]=(rest [.val (pv k),.val (.lst (ps.map pv)),.val (.lst (ps.map (fun x=> .int ((x.getD 0:Nat):Int))))]).bind (fun x=>match x.1 with | .ret d=>some d | .next=>some .none):=by
  have hm:manyOf k≤3:=by unfold manyOf;split <;> lia
  have hc:=comp_zero (i:=1) (st:=[.val (pv k),.val (.lst (ps.map pv)),.unset]) (ps:=ps) rfl (lim_ge (by lia))
  have e:F_pen_colour_of [pv k,.lst (ps.map pv)]=(F_pen_colour_of_body [.val (pv k),.val (.lst (ps.map pv)),.unset]).bind (fun x=>match x.1 with | .ret d=>some d | .next=>some .none):=rfl
  rw [e,hr,bCons_asg (eL_of hc)]
  rfl
theorem many_cases (k:Option Nat) (ps:List (Option Nat)) (h:ps.length≤manyOf k):(ps=[]∧k≠some 5∧k≠some 2)∨(k=some 5∧(ps=[]∨∃ x,ps=[x]))∨(k=some 2∧(ps=[]∨(∃ x,ps=[x])∨(∃ x y,ps=[x,y])∨∃ x y z,ps=[x,y,z])):=by
  unfold manyOf at h
  split at h
  · refine .inr (.inl ⟨rfl,?_⟩)
    match ps,h with
    | [],_=>exact .inl rfl
    | [x],_=>exact .inr ⟨x,rfl⟩
  · refine .inr (.inr ⟨rfl,?_⟩)
    match ps,h with
    | [],_=>exact .inl rfl
    | [x],_=>exact .inr (.inl ⟨x,rfl⟩)
    | [x,y],_=>exact .inr (.inr (.inl ⟨x,y,rfl⟩))
    | [x,y,z],_=>exact .inr (.inr (.inr ⟨x,y,z,rfl⟩))
  · rename_i h5 h2
    match ps,h with
    | [],_=>exact .inl ⟨rfl,fun e=>h5 e,fun e=>h2 e⟩
theorem hueOf_none (k:Option Nat):hueOf k []=none:=by
  unfold hueOf
  split
  · rfl
  · split <;> rfl
theorem max3 (a b c:Nat):((if (if (a:Int)<b then (b:Int) else a)<c then (c:Int) else if (a:Int)<b then (b:Int) else a)>255)= ¬ (a≤255∧b≤255∧c≤255):=by
  apply propext
  by_cases h:(a:Int)<b
  · rw [if_pos h]
    by_cases h':(b:Int)<c
    · rw [if_pos h'];lia
    · rw [if_neg h'];lia
  · rw [if_neg h]
    by_cases h':(a:Int)<c
    · rw [if_pos h'];lia
    · rw [if_neg h'];lia
theorem hue_law (k:Option Nat) (ps:List (Option Nat)) (h:ps.length≤manyOf k):F_law_hue [pv k,.lst (ps.map pv)]=some (pv (hueOf k ps)):=by
  rw [hue_law_rest k ps h _ (fun st=>rfl)]
  have hlim:∀ m:Nat,m<100→(m≤lim)=True:=fun m hm=>eq_true (by unfold lim;lia)
  have hnd:(([5,2]:List Int).Nodup)=True:=eq_true (by decide)
  rcases many_cases k ps h with ⟨rfl,h5,h2⟩ | ⟨rfl,rfl | ⟨x,rfl⟩⟩ | ⟨rfl,rfl | ⟨x,rfl⟩ | ⟨x,y,rfl⟩ | ⟨x,y,z,rfl⟩⟩
  · induction k using Option.casesOn with
    | none=>kernel_rfl
    | some k=>
      have e5':((k:Int)==(5:Int))=false:=by have:k≠5:=fun e=>h5 (by rw [e]);simp;lia
      have e2':((k:Int)==(2:Int))=false:=by have:k≠2:=fun e=>h2 (by rw [e]);simp;lia
      have e0:((0:Int)==(0:Int))=true:=rfl
      rw [hueOf_none]
      simp only [pv,pairsRun,eDct,getV,lookI_c,lookI_n,e5',e2',e0,hnd,hlim,Option.getD_none,List.map_nil,List.length_nil,bCons,bNil,sAsg,sIf,eCst,eVar,eIdx,idxV,tCmp,tOr,eIf,cmpV,i2B,eqV,eBin,binV,addV,i2V,sRet,eF1,eF3,lenV,Option.bind_eq_bind,Option.bind_some,List.getElem?_cons_zero,List.getElem?_cons_succ,List.set_cons_zero,List.set_cons_succ,Nat.reduceLT,Bool.false_eq_true,if_false,if_true,Option.map_some,Bool.not_true,Int.cast_ofNat_Int]
  · kernel_rfl
  · have hr:hueOf (some 5) [x]=if x.getD 0≤255 then some (x.getD 0) else none:=rfl
    rw [hr]
    simp only [List.map_cons,List.map_nil]
    generalize pv x=px
    generalize x.getD 0=a
    by_cases ha:a≤255
    · have hd:decide ((a:Int)>255)=false:=by simp;lia
      have e0:((1:Int)==(0:Int))=false:=rfl
      have e1:((1:Int)==(1:Int))=true:=rfl
      have e5:((5:Int)==(5:Int))=true:=rfl
      have e1':(((1:Nat):Int)==(1:Int))=true:=rfl
      rw [if_pos ha]
      simp only [pv,pairsRun,eDct,getV,lookI_c,lookI_n,hd,hnd,hlim,e0,e1,e5,Option.getD_some,maxV,maxL,intsOf,List.length_cons,List.length_nil,bCons,bNil,sAsg,sIf,eCst,eVar,eIdx,idxV,tCmp,tOr,eIf,cmpV,i2B,eqV,eBin,binV,addV,i2V,sRet,eF1,eF3,lenV,Option.bind_eq_bind,Option.bind_some,Nat.zero_add,List.getElem?_cons_zero,List.getElem?_cons_succ,List.set_cons_zero,List.set_cons_succ,Nat.reduceLT,Bool.false_eq_true,if_false,if_true,and_self,Int.toNat_zero,List.foldl_nil,Option.map_some,Int.le_refl,Bool.not_true,Int.reduceBEq,Int.cast_ofNat_Int]
    · have hd:decide ((a:Int)>255)=true:=by simp;lia
      have e0:((1:Int)==(0:Int))=false:=rfl
      have e1:((1:Int)==(1:Int))=true:=rfl
      have e5:((5:Int)==(5:Int))=true:=rfl
      have e1':(((1:Nat):Int)==(1:Int))=true:=rfl
      rw [if_neg ha]
      simp only [pv,pairsRun,eDct,getV,lookI_c,lookI_n,hd,hnd,hlim,e0,e1,e5,Option.getD_some,maxV,maxL,intsOf,List.length_cons,List.length_nil,bCons,bNil,sAsg,sIf,eCst,eVar,eIdx,idxV,tCmp,tOr,eIf,cmpV,i2B,eqV,eBin,binV,addV,i2V,sRet,eF1,eF3,lenV,Option.bind_eq_bind,Option.bind_some,Nat.zero_add,List.getElem?_cons_zero,List.getElem?_cons_succ,List.set_cons_zero,List.set_cons_succ,Nat.reduceLT,Bool.false_eq_true,if_false,if_true,ite_self,List.foldl_nil,Option.map_some,Bool.not_true,Int.reduceBEq,Int.cast_ofNat_Int]
  · kernel_rfl
  · kernel_rfl
  · kernel_rfl
  · have hr:hueOf (some 2) [x,y,z]=if x.getD 0≤255∧y.getD 0≤255∧z.getD 0≤255 then some (16777216+65536*x.getD 0+256*y.getD 0+z.getD 0) else none:=rfl
    rw [hr]
    simp only [List.map_cons,List.map_nil]
    generalize pv x=px
    generalize pv y=py
    generalize pv z=pz
    generalize x.getD 0=a
    generalize y.getD 0=b
    generalize z.getD 0=c
    have hm:=max3 a b c
    have e0:((3:Int)==(0:Int))=false:=rfl
    have e1:((5:Int)==(2:Int))=false:=rfl
    have e1':((2:Int)==(5:Int))=false:=rfl
    have e2:((2:Int)==(2:Int))=true:=rfl
    have e3:(((3:Nat):Int)==(3:Int))=true:=rfl
    have hs:∀ m:Nat,m≤255→small (m:Int)=true:=fun m hm=>by unfold small;rw [Int.natAbs_natCast];exact decide_eq_true (by lia)
    have hs1:small 65536=true:=rfl
    have hs2:small 256=true:=rfl
    by_cases ha:a≤255∧b≤255∧c≤255
    · rw [if_pos ha]
      have ht:(¬ (a≤255∧b≤255∧c≤255))=False:=eq_false (fun q=>q ha)
      simp only [pv,pairsRun,eDct,getV,lookI_c,lookI_n,hm,ht,hnd,hlim,e0,e1',e2,hs1,hs2,hs a ha.1,hs b ha.2.1,Option.getD_some,maxV,maxL,intsOf,List.length_cons,List.length_nil,bCons,bNil,sAsg,sIf,eCst,eVar,eIdx,idxV,tCmp,tOr,eIf,cmpV,i2B,eqV,eBin,binV,addV,i2V,sRet,eF1,eF3,lenV,Option.bind_eq_bind,Option.bind_some,Nat.zero_add,Nat.reduceAdd,List.getElem?_cons_zero,List.getElem?_cons_succ,List.set_cons_zero,List.set_cons_succ,Int.reduceLE,Nat.reduceLT,Bool.false_eq_true,if_false,if_true,and_self,Int.toNat_zero,List.foldl_cons,List.foldl_nil,Int.reduceToNat,Option.map_some,Int.le_refl,Bool.not_true,decide_false,Int.reduceBEq,Int.cast_ofNat_Int,Bool.and_self]
      congr 2
    · rw [if_neg ha]
      have ht:(¬ (a≤255∧b≤255∧c≤255))=True:=eq_true ha
      simp only [pv,pairsRun,eDct,getV,lookI_c,lookI_n,hm,ht,hnd,hlim,e0,e1',e2,Option.getD_some,maxV,maxL,intsOf,List.length_cons,List.length_nil,bCons,bNil,sAsg,sIf,eCst,eVar,eIdx,idxV,tCmp,tOr,eIf,cmpV,i2B,eqV,eBin,binV,addV,i2V,sRet,eF1,eF3,lenV,Option.bind_eq_bind,Option.bind_some,Nat.zero_add,Nat.reduceAdd,List.getElem?_cons_zero,List.getElem?_cons_succ,List.set_cons_zero,List.set_cons_succ,Nat.reduceLT,Bool.false_eq_true,if_false,if_true,ite_self,List.foldl_cons,List.foldl_nil,Option.map_some,Bool.not_true,decide_true,Int.reduceBEq,Int.cast_ofNat_Int]
theorem or_add {i a b:Nat} (h:b<2 ^ i):(2 ^ i*a) ||| b=2 ^ i*a+b:=(Nat.two_pow_add_eq_or_of_lt h a).symm
theorem direct_of (a b c:Nat) (ha:a≤255) (hb:b≤255) (hc:c≤255):F_direct_colour [.int a,.int b,.int c]=some (.int ((16777216+65536*a+256*b+c:Nat):Int)):=by
  have hs:∀ m:Nat,m≤255→small (m:Int)=true:=fun m hm=>by unfold small;rw [Int.natAbs_natCast];exact decide_eq_true (by lia)
  have h1:((a:Int)*2 ^ 16)=((2 ^ 16*a:Nat):Int):=by lia
  have h2:((b:Int)*2 ^ 8)=((2 ^ 8*b:Nat):Int):=by lia
  have h3:(2 ^ 16*a) ||| (2 ^ 8*b)=2 ^ 16*a+2 ^ 8*b:=or_add (by lia)
  have h4:(2 ^ 16*a+2 ^ 8*b) ||| c=2 ^ 16*a+2 ^ 8*b+c:=by
    have:=or_add (i:=8) (a:=2 ^ 8*a+b) (b:=c) (by lia)
    have e:2 ^ 16*a+2 ^ 8*b=2 ^ 8*(2 ^ 8*a+b):=by lia
    rw [e,this]
  have t16:Int.toNat 16=16:=rfl
  have t8:Int.toNat 8=8:=rfl
  have e:F_direct_colour [.int a,.int b,.int c]=some (.int (16777216+Builtin.bitOr (Builtin.bitOr ((a:Int)*2 ^ 16) ((b:Int)*2 ^ 8)) c)):=by
    simp only [F_direct_colour,F_direct_colour_body,runV,hs a ha,hs b hb,t16,t8,List.map_cons,List.map_nil,List.length_cons,List.length_nil,bCons,bNil,eCst,eVar,eBin,binV,addV,i2V,sRet,Option.bind_eq_bind,Option.bind_some,Nat.zero_add,Nat.reduceAdd,Nat.reduceSub,List.replicate,List.append_nil,List.getElem?_cons_zero,List.getElem?_cons_succ,Int.reduceLE,if_true,and_self,G_DIRECT]
  rw [e,h1,h2,bitOr_nn,h3,bitOr_nn,h4]
  congr 2
  lia
theorem hue_pen (k:Option Nat) (ps:List (Option Nat)) (h:ps.length≤manyOf k):F_pen_colour_of [pv k,.lst (ps.map pv)]=some (pv (hueOf k ps)):=by
  rw [hue_pen_rest k ps h _ (fun st=>rfl)]
  have hlim:∀ m:Nat,m<100→(m≤lim)=True:=fun m hm=>eq_true (by unfold lim;lia)
  rcases many_cases k ps h with ⟨rfl,h5,h2⟩ | ⟨rfl,rfl | ⟨x,rfl⟩⟩ | ⟨rfl,rfl | ⟨x,rfl⟩ | ⟨x,y,rfl⟩ | ⟨x,y,z,rfl⟩⟩
  · induction k using Option.casesOn with
    | none=>kernel_rfl
    | some k=>
      have e5':((k:Int)==(5:Int))=false:=by have:k≠5:=fun e=>h5 (by rw [e]);simp;lia
      have e2':((k:Int)==(2:Int))=false:=by have:k≠2:=fun e=>h2 (by rw [e]);simp;lia
      rw [hueOf_none]
      simp only [pv,e5',e2',hlim,List.map_nil,List.length_nil,bCons,bNil,sIf,evs,eCst,eVar,eIdx,idxV,tCmp,tAnd,cmpV,i2B,eqV,eCall,sRet,eF1,eL,lenV,Option.bind_eq_bind,Option.bind_some,List.getElem?_cons_zero,List.getElem?_cons_succ,Nat.reduceLT,Bool.false_eq_true,if_false,if_true,ite_self,and_self,Int.toNat_zero,Int.le_refl,G_MOST_COLOUR,decide_false,Int.reduceGE,Int.cast_ofNat_Int]
  · kernel_rfl
  · have hr:hueOf (some 5) [x]=if x.getD 0≤255 then some (x.getD 0) else none:=rfl
    rw [hr]
    simp only [List.map_cons,List.map_nil]
    generalize pv x=px
    generalize x.getD 0=a
    by_cases ha:a≤255
    · have hd:decide ((a:Int)≤255)=true:=by simp;lia
      rw [if_pos ha]
      simp only [pv,hd,hlim,List.length_cons,List.length_nil,bCons,bNil,sIf,evs,eCst,eVar,eIdx,idxV,tCmp,tAnd,cmpV,i2B,eqV,eCall,sRet,eF1,eL,lenV,Option.bind_eq_bind,Option.bind_some,Nat.zero_add,List.getElem?_cons_zero,List.getElem?_cons_succ,Nat.reduceLT,if_true,and_self,Int.toNat_zero,Int.le_refl,G_MOST_COLOUR,decide_true,Int.reduceBEq,Int.cast_ofNat_Int]
    · have hd:decide ((a:Int)≤255)=false:=by simp;lia
      rw [if_neg ha]
      simp only [pv,hd,hlim,List.length_cons,List.length_nil,bCons,bNil,sIf,evs,eCst,eVar,eIdx,idxV,tCmp,tAnd,cmpV,i2B,eqV,eCall,sRet,eF1,eL,lenV,Option.bind_eq_bind,Option.bind_some,Nat.zero_add,List.getElem?_cons_zero,List.getElem?_cons_succ,Int.reduceLE,Nat.reduceLT,Bool.false_eq_true,if_false,if_true,ite_self,and_self,Int.toNat_zero,Int.reduceToNat,Int.le_refl,G_MOST_COLOUR,decide_true,decide_false,Int.reduceBEq,Int.reduceGE,Int.cast_ofNat_Int]
  · kernel_rfl
  · kernel_rfl
  · kernel_rfl
  · have hr:hueOf (some 2) [x,y,z]=if x.getD 0≤255∧y.getD 0≤255∧z.getD 0≤255 then some (16777216+65536*x.getD 0+256*y.getD 0+z.getD 0) else none:=rfl
    rw [hr]
    simp only [List.map_cons,List.map_nil]
    generalize pv x=px
    generalize pv y=py
    generalize pv z=pz
    generalize x.getD 0=a
    generalize y.getD 0=b
    generalize z.getD 0=c
    have hc:cut [V.int (a:Int),V.int (b:Int),V.int (c:Int)] none (some 3)=[V.int (a:Int),V.int (b:Int),V.int (c:Int)]:=by kernel_rfl
    have hs3:small 3=true:=rfl
    by_cases ha:a≤255∧b≤255∧c≤255
    · rw [if_pos ha]
      have hm:((if (if (a:Int)<b then (b:Int) else a)<c then (c:Int) else if (a:Int)<b then (b:Int) else a)≤255)=True:=eq_true (Int.not_lt.mp fun q=>(Eq.mp (max3 a b c) q) ha)
      simp only [pv,lSlc,hm,hs3,hc,hlim,maxV,maxL,intsOf,direct_of a b c ha.1 ha.2.1 ha.2.2,List.length_cons,List.length_nil,bCons,bNil,sIf,evs,eCst,eVar,eIdx,idxV,tCmp,tAnd,cmpV,i2B,eqV,eCall,sRet,eF1,eL,opt,lenV,smallO,Option.bind_eq_bind,Option.bind_some,Nat.zero_add,Nat.reduceAdd,List.getElem?_cons_zero,List.getElem?_cons_succ,Int.reduceLE,Nat.reduceLT,Bool.false_eq_true,if_false,if_true,and_self,Int.toNat_zero,List.foldl_cons,List.foldl_nil,Int.reduceToNat,Option.map_some,Int.le_refl,G_MOST_COLOUR,Bool.and_true,Bool.true_and,decide_true,Int.reduceBEq,Int.reduceGE,Int.cast_ofNat_Int]
    · rw [if_neg ha]
      have hm:((if (if (a:Int)<b then (b:Int) else a)<c then (c:Int) else if (a:Int)<b then (b:Int) else a)≤255)=False:=eq_false (fun q=>absurd (Eq.mpr (max3 a b c) ha) (Int.not_lt.mpr q))
      simp only [pv,lSlc,hm,hs3,hc,hlim,maxV,maxL,intsOf,List.length_cons,List.length_nil,bCons,bNil,sIf,evs,eCst,eVar,eIdx,idxV,tCmp,tAnd,cmpV,i2B,eqV,eCall,sRet,eF1,eL,opt,lenV,smallO,Option.bind_eq_bind,Option.bind_some,Nat.zero_add,Nat.reduceAdd,List.getElem?_cons_zero,List.getElem?_cons_succ,Int.reduceLE,Nat.reduceLT,Bool.false_eq_true,if_false,if_true,ite_self,and_self,Int.toNat_zero,List.foldl_cons,List.foldl_nil,Int.reduceToNat,Option.map_some,Int.le_refl,G_MOST_COLOUR,Bool.and_true,Bool.true_and,decide_true,decide_false,Int.reduceBEq,Int.reduceGE,Int.cast_ofNat_Int]
end Mine.P
end
section
open PySem
namespace Mine.P
structure RowsOk (L:List Row):Prop where
  ne:∀ r∈L,r≠[]
  le:∀ r∈L,r.length≤100
  len:L.length≤1000
theorem RowsOk.lim {L:List Row} (h:RowsOk L):L.length≤Mine.lim:=lim_ge (by have:=h.len;lia)
theorem RowsOk.rlim {L:List Row} (h:RowsOk L):∀ r∈L,r.length≤Mine.lim:=fun r hr=>lim_ge (by have:=h.le r hr;lia)
theorem RowsOk.sub {L M:List Row} (h:RowsOk L) (hs:∀ r∈M,r∈L) (hl:M.length≤L.length):RowsOk M:=⟨fun r hr=>h.ne r (hs r hr),fun r hr=>h.le r (hs r hr),Nat.le_trans hl h.len⟩
theorem RowsOk.drop {L:List Row} (h:RowsOk L) (n:Nat):RowsOk (L.drop n):=h.sub (fun _ m=>List.mem_of_mem_drop m) (by simp)
theorem RowsOk.take {L:List Row} (h:RowsOk L) (n:Nat):RowsOk (L.take n):=h.sub (fun _ m=>List.mem_of_mem_take m) (by simp;lia)
theorem get_many (k:Option Nat):getV (.dct [5,2] [.int 1,.int 3]) (pv k) (.int 0)=some (.int ((manyOf k:Nat):Int)):=by
  induction k using Option.casesOn with
  | none=>rfl
  | some n=>
    by_cases h5:n=5
    · subst h5;rfl
    · by_cases h2:n=2
      · subst h2;rfl
      · have e5:((n:Int)==(5:Int))=false:=by simp;lia
        have e2:((n:Int)==(2:Int))=false:=by simp;lia
        have hm:manyOf (some n)=0:=by unfold manyOf;split <;> simp_all
        rw [hm]
        simp only [getV,pv,lookI_c,lookI_n,e5,e2,Bool.false_eq_true,if_false,Option.getD_none]
        rfl
theorem many_le (k:Option Nat):manyOf k≤3:=by unfold manyOf;split <;> lia
theorem heads_take (L:List Row) (n:Nat):heads (L.take n)=(heads L).take n:=by simp [heads,List.map_take]
theorem heads_len (L:List Row):(heads L).length=L.length:=by simp [heads]
theorem lSlc_rows {L:List Row} (h:RowsOk L) {e:EF} {lo hi:EF} {st:St} {a b:Nat} (he:e st=some (rowsV L,st)) (h1:lo st=some (.int (a:Int),st)) (h2:hi st=some (.int (b:Int),st)) (ha:a≤1000000) (hb:b≤1000000):
    iSeq (eL (lSlc e (some lo) (some hi))) st=some ((((L.drop a).take (b - a)).map rowV),st):=by
  have hl:(L.map rowV).length≤lim:=by simpa using h.lim
  have hl2:(List.take (b - a) (List.drop a (L.map rowV))).length≤lim:=Nat.le_trans (by simp;omega +splitDisjunctions) hl
  simp only [iSeq,eL,lSlc,opt,he,h1,h2,rowsV,Option.bind_eq_bind,Option.bind_some,smallO_nat ha,smallO_nat hb,hl,cut_nat,itemsV,hl2,decide_true,Bool.and_self,if_true]
  simp [List.map_take,List.map_drop]
noncomputable def lookAt (L:List Row) (i:Nat):Option Nat×Nat:=match L.drop (i+1) with
  | []=>(none,i+1)
  | h::t=>(hueOf (h.headD none) (heads (t.take (manyOf (h.headD none)))),i+2+manyOf (h.headD none))
theorem told_apart {L:List Row} (h:RowsOk L) {i:Nat} (hi:i<L.length):F_pen_told_apart [rowsV L,.int (i:Int)]=some (.tup [pv (lookAt L i).1,.int (((lookAt L i).2:Nat):Int)]):=by
  have hle:=h.len
  have hc:=comp_head (L:=(L.drop (i+1)).take 4) (it:=iSeq (eL (lSlc (eVar 0) (some (eBin .Add (eVar 1) (eCst (.int 1)))) (some (eBin .Add (eVar 1) (eCst (.int 5))))))) (st:=[.val (rowsV L),.val (.int (i:Int)),.unset,.unset]) (st':=[.val (rowsV L),.val (.int (i:Int)),.unset,.unset])
    (by
      have:=lSlc_rows h (e:=eVar 0) (lo:=eBin .Add (eVar 1) (eCst (.int 1))) (hi:=eBin .Add (eVar 1) (eCst (.int 5))) (st:=[.val (rowsV L),.val (.int (i:Int)),.unset,.unset]) (a:=i+1) (b:=i+5) rfl rfl rfl (by lia) (by lia)
      rw [this,show i+5 - (i+1)=4 by lia])
    ((h.drop _).take _).ne ((h.drop _).take _).rlim ((h.drop _).take _).lim
  have e:F_pen_told_apart [rowsV L,.int (i:Int)]=(F_pen_told_apart_body [.val (rowsV L),.val (.int (i:Int)),.unset,.unset]).bind (fun x=>match x.1 with | .ret d=>some d | .next=>some .none):=rfl
  rw [e,show F_pen_told_apart_body=_ from rfl]
  unfold F_pen_told_apart_body
  rw [bCons_asg (eL_of hc)]
  have hlim:∀ m:Nat,m<100→(m≤lim)=True:=fun m hm=>eq_true (by unfold lim;lia)
  unfold lookAt
  generalize L.drop (i+1)=R
  induction R using List.casesOn with
  | nil=>simp only [List.take_nil,heads,hlim,pv,List.map_nil,List.length_nil,bCons,bNil,sAsg,sIf,eTup,evs,eCst,eVar,eIdx,idxV,tCmp,cmpV,eqV,eBin,binV,addV,eCall,sRet,eF1,eF3,eL,lenV,Option.bind_eq_bind,Option.bind_some,List.getElem?_cons_zero,List.getElem?_cons_succ,List.set_cons_zero,List.set_cons_succ,Nat.reduceLT,if_true,Int.reduceBEq,Int.cast_ofNat_Int];rfl
  | cons r t=>
    have hh:heads (List.take 4 (r::t))=r.headD none::heads (t.take 3):=rfl
    rw [hh]
    dsimp only
    have hm:=many_le (r.headD none)
    have ht:(heads (t.take 3)).length≤3:=by rw [heads_len];simp;lia
    have e0:((((heads (t.take 3)).map pv).length+1:Nat):Int)=0↔False:=by constructor <;> intro q <;> simp at q;lia
    have e0':(((((heads (t.take 3)).map pv).length+1:Nat):Int)==(0:Int))=false:=by simp;lia
    have hl:(((heads (t.take 3)).map pv).length+1≤lim)=True:=eq_true (lim_ge (by rw [List.length_map];lia))
    have hcut:cut (pv (r.headD none)::(heads (t.take 3)).map pv) (some 1) (some (1+((manyOf (r.headD none):Nat):Int)))=((heads (t.take (manyOf (r.headD none)))).map pv):=by
      have:=cut_nat (pv (r.headD none)::(heads (t.take 3)).map pv) 1 (1+manyOf (r.headD none))
      rw [show (some (1+((manyOf (r.headD none):Nat):Int)):Option Int)=some (((1+manyOf (r.headD none):Nat)):Int) by simp,show (some 1:Option Int)=some ((1:Nat):Int) from rfl,this]
      rw [Nat.add_sub_cancel_left,List.drop_succ_cons,List.drop_zero,← List.map_take,← heads_take,List.take_take,Nat.min_eq_left hm]
    have hhue:=hue_pen (r.headD none) (heads (t.take (manyOf (r.headD none)))) (by rw [heads_len];simp;lia)
    have hsm:small 1=true:=rfl
    have hsm2:small (1+((manyOf (r.headD none):Nat):Int))=true:=by
      have:=smallO_nat (n:=1+manyOf (r.headD none)) (by lia)
      rw [← this];simp [smallO]
    have hnd:(([5,2]:List Int).Nodup)=True:=eq_true (by decide)
    simp only [get_many,hcut,hhue,hl,e0',hsm,hsm2,pairsRun,eDct,lSlc,hnd,List.map_cons,List.length_cons,bCons,bNil,sAsg,sIf,eTup,evs,eCst,eVar,eIdx,idxV,tCmp,cmpV,eqV,eBin,binV,addV,eCall,sRet,eF1,eF3,eL,opt,lenV,smallO,Option.bind_eq_bind,Option.bind_some,List.getElem?_cons_zero,List.getElem?_cons_succ,List.set_cons_zero,List.set_cons_succ,Bool.false_eq_true,if_false,if_true,and_self,Int.toNat_zero,Int.le_refl,Bool.and_true,Bool.true_and,decide_true]
    congr 3
end Mine.P
end
section
open PySem
namespace Mine.P
theorem sIf_true {t:TF} {a b:SF} {st st':St} (h:t st=some (true,st')):sIf t a b st=a st':=by
  simp only [sIf,h,Option.bind_eq_bind,Option.bind_some,if_true]
theorem sIf_false {t:TF} {a b:SF} {st st':St} (h:t st=some (false,st')):sIf t a b st=b st':=by
  simp only [sIf,h,Option.bind_eq_bind,Option.bind_some,Bool.false_eq_true,if_false]
theorem hueOf_col {k:Option Nat} {ps:List (Option Nat)} {c:Nat} (h:hueOf k ps=some c):Col (c:Int):=by
  unfold hueOf at h
  unfold Col
  split at h
  · split at h
    · have q:=ite_some h;omega +splitDisjunctions
    · exact noneE h
  · split at h
    · split at h
      · have q:=ite_some h;omega +splitDisjunctions
      · exact noneE h
    · exact noneE h
theorem wf_hue {n:Nat} {c:Option Nat} {p:Pen} (w:WF p) (hc:∀ c',c=some c'→Col (c':Int)):WF (setHue n c p):=by
  induction c using Option.casesOn with
  | none=>exact w
  | some c=>
    have:=hc c rfl
    unfold setHue
    dsimp only
    split
    · exact ⟨w.lo,w.ln,this,w.b,w.u⟩
    · split
      · exact ⟨w.lo,w.ln,w.f,this,w.u⟩
      · exact ⟨w.lo,w.ln,w.f,w.b,this⟩
noncomputable def rawSub (r:Row) (x f b u k:Int):V:=match r with
  | [some 58,some 5,some 7]=> .tup [.int x,.int f,.int b,.int 7,.int k]
  | [some 4,some j]=>if j≤5 then .tup [.int (flRaw (.under j) x),.int f,.int b,.int u,.int k] else .tup [.int x,.int f,.int b,.int u,.int k]
  | [some 38,some 5,some 0]=> .tup [.int x,.int 0,.int b,.int u,.int k]
  | [some 38,some 2,some 9,some 8,some 7]=> .tup [.int x,.int d987,.int b,.int u,.int k]
  | [some 48,some 2,none,some 9,some 8,some 7]=> .tup [.int x,.int f,.int d987,.int u,.int k]
  | _=> .tup [.int x,.int f,.int b,.int u,.int k]
theorem rawSub_of {p:Pen} (w:WF p):∀ r∈multis,rawSub r (flV p) p.f p.b p.u p.k=penV (subAct r p):=by
  have hf:∀ j,j<6→flRaw (.under j) (flV p)=flV { p with ln:=j}:=fun j hj=>fl_of (a:= .under j) (decide_eq_true hj) trivial w
  intro r hr
  simp only [multis,List.mem_cons,List.not_mem_nil,or_false] at hr
  rcases hr with rfl | rfl | rfl | rfl | rfl | rfl | rfl | rfl | rfl | rfl | rfl | rfl | rfl | rfl
  · rfl
  · show V.tup [.int (flRaw (.under 3) (flV p)),_,_,_,_]=_;rw [hf 3 (by decide)];rfl
  · show V.tup [.int (flRaw (.under 0) (flV p)),_,_,_,_]=_;rw [hf 0 (by decide)];rfl
  · rfl
  · rfl
  · rfl
  · rfl
  · rfl
  · rfl
  · rfl
  · rfl
  · rfl
  · show V.tup [.int (flRaw (.under 4) (flV p)),_,_,_,_]=_;rw [hf 4 (by decide)];rfl
  · show V.tup [.int (flRaw (.under 5) (flV p)),_,_,_,_]=_;rw [hf 5 (by decide)];rfl
theorem wf_sub {p:Pen} (w:WF p):∀ r∈multis,WF (subAct r p):=by
  intro r hr
  simp only [multis,List.mem_cons,List.not_mem_nil,or_false] at hr
  have h7:Col 7:= .inr (.inl (by lia))
  have h0:Col 0:= .inr (.inl (by lia))
  have hd:Col d987:= .inr (.inr (by unfold d987;lia))
  rcases hr with rfl | rfl | rfl | rfl | rfl | rfl | rfl | rfl | rfl | rfl | rfl | rfl | rfl | rfl
  · exact ⟨w.lo,w.ln,w.f,w.b,h7⟩
  · exact ⟨w.lo,by show 3<6;decide,w.f,w.b,w.u⟩
  · exact ⟨w.lo,by show 0<6;decide,w.f,w.b,w.u⟩
  · exact w
  · exact w
  · exact w
  · exact w
  · exact w
  · exact ⟨w.lo,w.ln,h0,w.b,w.u⟩
  · exact ⟨w.lo,w.ln,hd,w.b,w.u⟩
  · exact ⟨w.lo,w.ln,w.f,hd,w.u⟩
  · exact w
  · exact ⟨w.lo,by show 4<6;decide,w.f,w.b,w.u⟩
  · exact ⟨w.lo,by show 5<6;decide,w.f,w.b,w.u⟩
noncomputable def numOf (r:Row):Nat:=(r.headD none).getD 0
noncomputable def plc:V:= .dct [38,48,58] [.int 1,.int 2,.int 3]
noncomputable def apSt (a0 a1:V) (p:Pen) (i:Nat) (rows:V) (t:List Slot):St:= .val a0:: .val a1:: .val (penV p):: .val (.int (i:Int)):: .val rows:: .val plc::t
theorem ap3_multi (a0 a1 rows:V) (x f b u k i:Int) (s8:Slot):multis.map (fun r=>W_apply_sgr_3 [.val a0,.val a1,.val (.tup [.int x,.int f,.int b,.int u,.int k]),.val (.int i),.val rows,.val plc,.val (rowV r),.val (.int (numOf r:Int)),s8])=
    multis.map (fun r=>some (Fl.next,[.val a0,.val a1,.val (rawSub r x f b u k),.val (.int (i+1)),.val rows,.val plc,.val (rowV r),.val (.int (numOf r:Int)),s8])):=by kernel_rfl
theorem ap2 (a0 a1 a2 a3 rows:V) (s7 s8:Slot) (r:Row) (h:(∃ x,r=[x])∨r∈multis):W_apply_sgr_2 [.val a0,.val a1,.val a2,.val a3,.val rows,.val plc,.val (rowV r),s7,s8]=
    some (.next,[.val a0,.val a1,.val a2,.val a3,.val rows,.val plc,.val (rowV r),.val (.int (numOf r:Int)),s8]):=by
  rcases h with ⟨x,rfl⟩ | h
  · induction x using Option.casesOn <;> kernel_rfl
  · exact List.map_inj_left.mp (show multis.map (fun r=>W_apply_sgr_2 [.val a0,.val a1,.val a2,.val a3,.val rows,.val plc,.val (rowV r),s7,s8])=multis.map (fun r=>some (.next,[.val a0,.val a1,.val a2,.val a3,.val rows,.val plc,.val (rowV r),.val (.int (numOf r:Int)),s8])) by kernel_rfl) r h
theorem ap1 (a0 a1:V) (p:Pen) (i:Nat) (s6 s7 s8:Slot) {L:List Row} (hL:RowsOk L) {r:Row} (hr:L[i]? =some r):W_apply_sgr_1 (apSt a0 a1 p i (rowsV L) [s6,s7,s8])=some (.next,apSt a0 a1 p i (rowsV L) [.val (rowV r),s7,s8]):=by
  have hl:((0:Int)≤(i:Int))=True:=eq_true (by lia)
  have hl':((L.map rowV).length≤lim)=True:=eq_true (by simpa using hL.lim)
  have hg:(L.map rowV)[i]? =some (rowV r):=by rw [List.getElem?_map,hr];rfl
  simp only [W_apply_sgr_1,apSt,rowsV,hl,hl',hg,Int.toNat_natCast,sAsg,eVar,eIdx,idxV,Option.bind_eq_bind,Option.bind_some,List.getElem?_cons_zero,List.getElem?_cons_succ,List.set_cons_zero,List.set_cons_succ,if_true,and_self]
theorem pen_of (p:Pen):penV p= .tup [.int (flV p),.int p.f,.int p.b,.int p.u,.int p.k]:=rfl
theorem ap3_plain (a0 a1 rows:V) {p:Pen} (w:WF p) (i n:Nat) (x:Option Nat) (s8:Slot) (h1:n≠38) (h2:n≠48) (h3:n≠58):
    W_apply_sgr_3 (apSt a0 a1 p i rows [.val (rowV [x]),.val (.int (n:Int)),s8])=some (.next,apSt a0 a1 (plain n p) (i+1) rows [.val (rowV [x]),.val (.int (n:Int)),s8]):=by
  have e1:((n:Int)==(38:Int))=false:=by simp;lia
  have e2:((n:Int)==(48:Int))=false:=by simp;lia
  have e3:((n:Int)==(58:Int))=false:=by simp;lia
  have hlim:∀ m:Nat,m<100→(m≤lim)=True:=fun m hm=>eq_true (by unfold lim;lia)
  have hp:=ppc n w
  have hi:((i:Int)+1)=((i+1:Nat):Int):=rfl
  simp only [W_apply_sgr_3,apSt,plc,rowV,inV,List.contains_cons,List.contains_nil,Bool.or_false,e1,e2,e3,hlim,hp,hi,List.map_cons,List.map_nil,List.length_cons,List.length_nil,bCons,bNil,sAsg,sIf,bindT1,evs,eCst,eVar,eIdx,idxV,tCmp,eIf,cmpV,i2B,isV,binV,addV,eCall,eF1,sAug,sUnp,lenV,Option.bind_eq_bind,Option.bind_some,Nat.zero_add,List.getElem?_cons_zero,List.getElem?_cons_succ,List.set_cons_zero,List.set_cons_succ,Nat.reduceLT,Bool.false_eq_true,if_false,if_true,Bool.not_true,decide_false,Int.reduceGT,Int.cast_ofNat_Int]
theorem setHue_V (n:Nat) (c:Option Nat) (p:Pen) (h:n=38∨n=48∨n=58):(match c with
    | none=>some (penV p)
    | some c=>F_pen_with [penV p,.int (if n=38 then 1 else if n=48 then 2 else 3),.int (c:Int)])=some (penV (setHue n c p)):=by
  induction c using Option.casesOn with
  | none=>rfl
  | some c=>rcases h with rfl | rfl | rfl <;> kernel_rfl
theorem ap3_look (a0 a1:V) {p:Pen} {L:List Row} (hL:RowsOk L) {i:Nat} (hi:i<L.length) (n:Nat) (x:Option Nat) (s8:Slot) (h:n=38∨n=48∨n=58):
    W_apply_sgr_3 (apSt a0 a1 p i (rowsV L) [.val (rowV [x]),.val (.int (n:Int)),s8])=some (.next,apSt a0 a1 (setHue n (lookAt L i).1 p) (lookAt L i).2 (rowsV L) [.val (rowV [x]),.val (.int (n:Int)),.val (pv (lookAt L i).1)]):=by
  have ht:=told_apart hL hi
  have hlim:∀ m:Nat,m<100→(m≤lim)=True:=fun m hm=>eq_true (by unfold lim;lia)
  generalize lookAt L i=q at ht ⊢
  obtain ⟨c,j⟩:=q
  dsimp only at ht ⊢
  have hw:=setHue_V n c p h
  rcases h with rfl | rfl | rfl <;> induction c using Option.casesOn <;> simp only [pv] at ht <;>
    (simp only [W_apply_sgr_3,apSt,plc,rowV,pv,inV,List.contains_cons,List.contains_nil,Bool.or_false,Bool.or_true,lookI_c,lookI_n,hlim,ht,List.map_cons,List.map_nil,List.length_cons,List.length_nil,bCons,bNil,sAsg,sIf,bindT1,evs,eCst,eVar,eIdx,idxV,tCmp,eIf,cmpV,i2B,isV,binV,addV,eCall,eF1,sAug,sUnp,lenV,Option.bind_eq_bind,Option.bind_some,Nat.zero_add,Nat.reduceAdd,List.getElem?_cons_zero,List.getElem?_cons_succ,List.set_cons_zero,List.set_cons_succ,Nat.reduceLT,Bool.false_eq_true,if_false,if_true,List.zip_cons_cons,List.zip_nil_right,List.foldl_cons,List.foldl_nil,Bool.not_true,decide_false,Int.reduceBEq,Int.reduceGT,Int.cast_ofNat_Int] at hw ⊢;try simp only [hw,Option.bind_some,List.set_cons_zero,List.set_cons_succ]) <;> try rfl
theorem whileLoop_step {t:TF} {b:SF} {n:Nat} {st st1 st2:St} (ht:t st=some (true,st1)) (hb:b st1=some (.next,st2)):whileLoop t b (n+1) st=whileLoop t b n st2:=by
  simp only [whileLoop_c,ht,hb,Option.bind_eq_bind,Option.bind_some,if_true]
theorem whileLoop_stop {t:TF} {b:SF} {n:Nat} {st st1:St} (ht:t st=some (false,st1)):whileLoop t b (n+1) st=some (.next,st1):=by
  simp only [whileLoop_c,ht,Option.bind_eq_bind,Option.bind_some,Bool.false_eq_true,if_false]
theorem ap_test (a0 a1:V) (p:Pen) (i:Nat) {L:List Row} (hL:RowsOk L) (t:List Slot):W_apply_sgr_t (apSt a0 a1 p i (rowsV L) t)=some (decide (i<L.length),apSt a0 a1 p i (rowsV L) t):=by
  have hl':((L.map rowV).length≤lim)=True:=eq_true (by simpa using hL.lim)
  have hd:decide ((i:Int)<((L.map rowV).length:Int))=decide (i<L.length):=by simp
  simp only [W_apply_sgr_t,apSt,rowsV,hl',hd,eVar,tCmp,cmpV,i2B,eF1,lenV,Option.bind_eq_bind,Option.bind_some,List.getElem?_cons_zero,List.getElem?_cons_succ,if_true]
theorem ap_body (a0 a1:V) {p:Pen} (w:WF p) (i:Nat) {L:List Row} (hL:RowsOk L) {r:Row} (hr:L[i]? =some r) (s6 s7 s8:Slot) {p':Pen} {j:Nat} {s8':Slot} (hg:GoodRow r)
    (h:W_apply_sgr_3 (apSt a0 a1 p i (rowsV L) [.val (rowV r),.val (.int (numOf r:Int)),s8])=some (.next,apSt a0 a1 p' j (rowsV L) [.val (rowV r),.val (.int (numOf r:Int)),s8'])):
    W_apply_sgr_b (apSt a0 a1 p i (rowsV L) [s6,s7,s8])=some (.next,apSt a0 a1 p' j (rowsV L) [.val (rowV r),.val (.int (numOf r:Int)),s8']):=by
  unfold W_apply_sgr_b
  exact (bCons_next (ap1 a0 a1 p i s6 s7 s8 hL hr)).trans ((bCons_next (ap2 a0 a1 (penV p) (.int (i:Int)) (rowsV L) s7 s8 r hg)).trans ((bCons_next h).trans rfl))
theorem run_nil (k:Nat) (p:Pen):run k [] p=p:=by induction k using Nat.casesAuxOn <;> rfl
theorem ap_loop (a0 a1:V) {L:List Row} (hL:RowsOk L) (hg:∀ r∈L,GoodRow r):∀ (k fuel i:Nat) (p:Pen) (s6 s7 s8:Slot),WF p→L.length - i≤k→k<fuel→
    ∃ i' t',whileLoop W_apply_sgr_t W_apply_sgr_b fuel (apSt a0 a1 p i (rowsV L) [s6,s7,s8])=some (.next,apSt a0 a1 (run k (L.drop i) p) i' (rowsV L) t'):=by
  intro k
  induction k with
  | zero=>
    intro fuel i p s6 s7 s8 w h1 h2
    obtain ⟨n,rfl⟩:∃ n,fuel=n+1:=⟨fuel - 1,by lia⟩
    refine ⟨i,[s6,s7,s8],?_⟩
    rw [whileLoop_stop ((ap_test a0 a1 p i hL _).trans (by rw [decide_eq_false (by lia)]))]
    rfl
  | succ k ih=>
    intro fuel i p s6 s7 s8 w h1 h2
    obtain ⟨n,rfl⟩:∃ n,fuel=n+1:=⟨fuel - 1,by lia⟩
    by_cases hi:i<L.length
    · have ht:=(ap_test a0 a1 p i hL [s6,s7,s8]).trans (by rw [decide_eq_true hi])
      have hr:L[i]? =some L[i]:=List.getElem?_eq_getElem hi
      have hd:L.drop i=L[i]::L.drop (i+1):=List.drop_eq_getElem_cons hi
      have hm:L[i]∈L:=List.getElem_mem hi
      generalize L[i]=r at hr hd hm
      rcases hg r hm with ⟨x,rfl⟩ | hmul
      · by_cases hn:x.getD 0=38∨x.getD 0=48∨x.getD 0=58
        · have hb:=ap_body a0 a1 w i hL hr s6 s7 s8 (.inl ⟨x,rfl⟩) (ap3_look a0 a1 (p:=p) hL hi (x.getD 0) x s8 hn)
          rw [whileLoop_step ht hb]
          have e:run (k+1) (L.drop i) p=run k (L.drop (lookAt L i).2) (setHue (x.getD 0) (lookAt L i).1 p):=by
            rw [hd]
            unfold lookAt
            simp only [run,if_pos hn]
            cases hR:L.drop (i+1) with
            | nil=>dsimp only;rw [hR,run_nil];rfl
            | cons h t=>
              dsimp only
              have:L.drop (i+2+manyOf (h.headD none))=t.drop (manyOf (h.headD none)):=by
                rw [show i+2+manyOf (h.headD none)=(i+1)+(1+manyOf (h.headD none)) by lia,← List.drop_drop,hR,Nat.add_comm 1,List.drop_succ_cons]
              rw [this]
          rw [e]
          refine ih n _ _ _ _ _ (wf_hue w ?_) ?_ (by lia)
          · intro c' hc
            unfold lookAt at hc
            split at hc
            · exact noneE hc
            · exact hueOf_col hc
          · unfold lookAt
            split <;> simp only <;> lia
        · have hb:=ap_body a0 a1 w i hL hr s6 s7 s8 (.inl ⟨x,rfl⟩) (ap3_plain a0 a1 (rowsV L) w i (x.getD 0) x s8 (fun q=>hn (.inl q)) (fun q=>hn (.inr (.inl q))) (fun q=>hn (.inr (.inr q))))
          rw [whileLoop_step ht hb,hd]
          simp only [run,if_neg hn]
          exact ih n _ _ _ _ _ (wf_plain _ w) (by lia) (by lia)
      · have h3:W_apply_sgr_3 (apSt a0 a1 p i (rowsV L) [.val (rowV r),.val (.int (numOf r:Int)),s8])=some (.next,apSt a0 a1 (subAct r p) (i+1) (rowsV L) [.val (rowV r),.val (.int (numOf r:Int)),s8]):=by
          have:=List.map_inj_left.mp (ap3_multi a0 a1 (rowsV L) (flV p) p.f p.b p.u p.k i s8) r hmul
          rw [rawSub_of w r hmul] at this
          exact this
        have hb:=ap_body a0 a1 w i hL hr s6 s7 s8 (.inr hmul) h3
        rw [whileLoop_step ht hb,hd]
        have e:run (k+1) (r::L.drop (i+1)) p=run k (L.drop (i+1)) (subAct r p):=by
          have hm':=hmul
          simp only [multis,List.mem_cons,List.not_mem_nil,or_false] at hm'
          rcases hm' with rfl | rfl | rfl | rfl | rfl | rfl | rfl | rfl | rfl | rfl | rfl | rfl | rfl | rfl <;> rfl
        rw [e]
        exact ih n _ _ _ _ _ (wf_sub w r hmul) (by lia) (by lia)
    · refine ⟨i,[s6,s7,s8],?_⟩
      rw [whileLoop_stop ((ap_test a0 a1 p i hL _).trans (by rw [decide_eq_false hi])),List.drop_of_length_le (by lia)]
      rfl
noncomputable def rows0 (L:List Row):List Row:=if L=[] then [[none]] else L
theorem ap_head {L:List Row} (hL:RowsOk L) (p:Pen) (lp:SF):W_apply_sgr_h lp [.val (penV p),.val (rowsV L),.unset,.unset,.unset,.unset,.unset,.unset,.unset]=
    bCons lp (bCons (sRet (eVar 2)) bNil) (apSt (penV p) (rowsV L) p 0 (rowsV (rows0 L)) [.unset,.unset,.unset]):=by
  induction L using List.casesOn with
  | nil=>kernel_rfl
  | cons r t=>
    have hl:((t.map rowV).length+1≤lim)=True:=eq_true (by have:=hL.lim;simpa using this)
    have hd:decide ((((t.map rowV).length+1:Nat):Int)>0)=true:=by simp
    have hr:rows0 (r::t)=r::t:=if_neg (by simp)
    have hnd:(([38,48,58]:List Int).Nodup)=True:=eq_true (by decide)
    rw [hr]
    simp only [W_apply_sgr_h,rowsV,pairsRun,eDct,hnd,hl,hd,apSt,plc,List.map_cons,List.length_cons,bCons,bNil,sAsg,evs,eCst,eVar,tCmp,eIf,cmpV,i2B,sRet,eF1,eL,lDisp,sTup,partsRun,Part.run,lenV,Option.bind_eq_bind,Option.bind_some,List.cons_append,List.nil_append,List.getElem?_cons_zero,List.getElem?_cons_succ,List.set_cons_zero,List.set_cons_succ,if_true,List.foldl_cons,List.foldl_nil,G_FORE,G_BACK,G_UNDER,G_SGR_FORE,G_SGR_BACK,G_SGR_UNDER,List.reverse_cons,List.reverse_nil,Int.cast_ofNat_Int]
theorem good0 {L:List Row} (hg:∀ r∈L,GoodRow r):∀ r∈rows0 L,GoodRow r:=by
  unfold rows0
  split
  · intro r hr;rw [List.mem_singleton] at hr;exact .inl ⟨none,hr⟩
  · exact hg
theorem ok0 {L:List Row} (hL:RowsOk L):RowsOk (rows0 L):=by
  unfold rows0
  split
  · exact ⟨fun r hr=>by rw [List.mem_singleton] at hr;rw [hr];simp,fun r hr=>by rw [List.mem_singleton] at hr;rw [hr];simp,by simp⟩
  · exact hL
theorem apply_of {L:List Row} (hL:RowsOk L) (hg:∀ r∈L,GoodRow r) {p:Pen} (w:WF p):F_apply_sgr [penV p,rowsV L]=some (penV (run (rows0 L).length (rows0 L) p)):=by
  have e:F_apply_sgr [penV p,rowsV L]=(F_apply_sgr_body [.val (penV p),.val (rowsV L),.unset,.unset,.unset,.unset,.unset,.unset,.unset]).bind (fun x=>match x.1 with | .ret d=>some d | .next=>some .none):=rfl
  refine x21 (ap_loop (penV p) (rowsV L) (ok0 hL) (good0 hg) (rows0 L).length 2000 0 p .unset .unset .unset w (by lia) (by have:=(ok0 hL).len;lia)) ?_;intro i' t' h
  rw [List.drop_zero] at h
  rw [e,W_apply_sgr_eq,ap_head hL,bCons_next (f:=sWhile 2000 _ _) h]
  rfl
end Mine.P
end
section
open PySem
namespace Mine.P
noncomputable def seenSt (a0 a1:V) (p:Pen) (i:Nat) (rows:V) (t:List Slot):St:= .val a0:: .val a1:: .own [.int p.f,.int p.b,.int p.u]:: .val (.int (p.lo:Int)):: .val (.int (p.ln:Int)):: .val rows:: .val (.int (i:Int))::t
theorem seen3_plain (a0 a1 rows:V) {p:Pen} (w:WF p) (i n:Nat) (x:V) (s9 s10 s11 s12 s13 s14:Slot) (h1:n≠38) (h2:n≠48) (h3:n≠58):
    ∃ t9 t13 t14,W_law_seen_3 (seenSt a0 a1 p i rows [.val (.lst [x]),.val (.int (n:Int)),s9,s10,s11,s12,s13,s14])=some (.next,seenSt a0 a1 (plain n p) i rows [.val (.lst [x]),.val (.int (n:Int)),t9,s10,s11,s12,t13,t14]):=by
  by_cases h:n<108
  · have hm:n∈(List.range 108).filter (fun n=>n != 38 && n != 48 && n != 58):=by
      rw [List.mem_filter]
      exact ⟨List.mem_range.mpr h,by simp [h1,h2,h3]⟩
    have:=List.map_inj_left.mp (seen3_lt a0 a1 rows p.f p.b p.u p.lo p.ln i x s9 s10 s11 s12 s13 s14) n hm
    refine ⟨if isElse (act n) then .val (.int 2) else s9,if isElse (act n) then .val (.int 50) else s13,if isElse (act n) then .val (.int 999) else s14,Eq.trans this ?_⟩
    have ha:=act_ok n
    unfold plain
    generalize act n=a at ha ⊢
    cases a with
    | set m=>
      have:=(lo_of (a:= .set m) ha trivial w).1
      rw [this];rfl
    | clear m=>
      have:=(lo_of (a:= .clear m) ha trivial w).1
      rw [this];rfl
    | _=>rfl
  · have:=seen3_ge a0 a1 rows p.f p.b p.u p.lo p.ln i x s9 s10 s11 s12 s13 s14 n (by lia)
    refine ⟨.val (.int 2),.val (.int 50),.val (.int 999),Eq.trans this ?_⟩
    unfold plain
    rw [act_ge (by lia)]
    rfl
noncomputable def lnSub (r:Row) (ln:Int):Int:=match r with
  | [some 4,some j]=>if j≤5 then (j:Int) else ln
  | _=>ln
noncomputable def huesSub (r:Row) (f b u:Int):List V:=match r with
  | [some 58,some 5,some 7]=>[.int f,.int b,.int 7]
  | [some 38,some 5,some 0]=>[.int 0,.int b,.int u]
  | [some 38,some 2,some 9,some 8,some 7]=>[.int d987,.int b,.int u]
  | [some 48,some 2,none,some 9,some 8,some 7]=>[.int f,.int d987,.int u]
  | _=>[.int f,.int b,.int u]
theorem seen3_multi (a0 a1 rows:V) (f b u lo ln i:Int) (s9 s10 s11 s12 s13 s14:Slot):
    multis.map (fun r=>(W_law_seen_3 [.val a0,.val a1,.own [.int f,.int b,.int u],.val (.int lo),.val (.int ln),.val rows,.val (.int i),.val (rowV r),.val (.int (numOf r:Int)),s9,s10,s11,s12,s13,s14]).map fun x=>(x.1,x.2.take 9,(x.2.drop 9).length))=
    multis.map (fun r=>some (Fl.next,[.val a0,.val a1,.own (huesSub r f b u),.val (.int lo),.val (.int (lnSub r ln)),.val rows,.val (.int i),.val (rowV r),.val (.int (numOf r:Int))],6)):=by kernel_rfl
theorem len6 {t:List Slot} (h:t.length=6):∃ a b c d e f,t=[a,b,c,d,e,f]:=by
  match t,h with
  | [a,b,c,d,e,f],_=>exact ⟨a,b,c,d,e,f,rfl⟩
theorem seen3_sub (a0 a1 rows:V) {p:Pen} (i:Nat) {r:Row} (hr:r∈multis) (s9 s10 s11 s12 s13 s14:Slot):
    ∃ t9 t10 t11 t12 t13 t14,W_law_seen_3 (seenSt a0 a1 p i rows [.val (rowV r),.val (.int (numOf r:Int)),s9,s10,s11,s12,s13,s14])=some (.next,seenSt a0 a1 (subAct r p) i rows [.val (rowV r),.val (.int (numOf r:Int)),t9,t10,t11,t12,t13,t14]):=by
  have:=List.map_inj_left.mp (seen3_multi a0 a1 rows p.f p.b p.u p.lo p.ln i s9 s10 s11 s12 s13 s14) r hr
  obtain ⟨⟨fl,st'⟩,h1,h2⟩:=Option.map_eq_some_iff.mp this
  simp only [Prod.mk.injEq] at h2
  refine x03 h2 ?_;(try clear h2);intro hq0 h3 h4;subst hq0
  obtain ⟨a,b,c,d,e,f,h5⟩:=len6 h4
  refine ⟨a,b,c,d,e,f,h1.trans ?_⟩
  rw [← List.take_append_drop 9 st',h3,h5]
  have e:(subAct r p).k=p.k∧(subAct r p).lo=p.lo∧((subAct r p).ln:Int)=lnSub r p.ln∧huesSub r p.f p.b p.u=[.int (subAct r p).f,.int (subAct r p).b,.int (subAct r p).u]:=by
    have hm':=hr
    simp only [multis,List.mem_cons,List.not_mem_nil,or_false] at hm'
    rcases hm' with rfl | rfl | rfl | rfl | rfl | rfl | rfl | rfl | rfl | rfl | rfl | rfl | rfl | rfl <;> exact ⟨rfl,rfl,rfl,rfl⟩
  unfold seenSt
  rw [e.2.1,e.2.2.1,e.2.2.2]
  rfl
theorem seen2 (a0 a1 a2 a3 a4 rows a6:V) (hs:List V) (s8 s9 s10 s11 s12 s13 s14:Slot) (r:Row) (h:GoodRow r):W_law_seen_2 [.val a0,.val a1,.own hs,.val a3,.val a4,.val rows,.val a6,.val (rowV r),s8,s9,s10,s11,s12,s13,s14]=
    some (.next,[.val a0,.val a1,.own hs,.val a3,.val a4,.val rows,.val a6,.val (rowV r),.val (.int (numOf r:Int)),s9,s10,s11,s12,s13,s14]):=by
  rcases h with ⟨x,rfl⟩ | h
  · induction x using Option.casesOn <;> kernel_rfl
  · exact List.map_inj_left.mp (show multis.map (fun r=>W_law_seen_2 [.val a0,.val a1,.own hs,.val a3,.val a4,.val rows,.val a6,.val (rowV r),s8,s9,s10,s11,s12,s13,s14])=multis.map (fun r=>some (.next,[.val a0,.val a1,.own hs,.val a3,.val a4,.val rows,.val a6,.val (rowV r),.val (.int (numOf r:Int)),s9,s10,s11,s12,s13,s14])) by kernel_rfl) r h
theorem seen1 (a0 a1:V) (p:Pen) (i:Nat) (s7:Slot) (t:List Slot) {L:List Row} (hL:RowsOk L) {r:Row} (hr:L[i]? =some r):W_law_seen_1 (seenSt a0 a1 p i (rowsV L) (s7::t))=some (.next,seenSt a0 a1 p (i+1) (rowsV L) (.val (rowV r)::t)):=by
  have hl:((0:Int)≤(i:Int))=True:=eq_true (by lia)
  have hl':((L.map rowV).length≤lim)=True:=eq_true (by simpa using hL.lim)
  have hg:(L.map rowV)[i]? =some (rowV r):=by rw [List.getElem?_map,hr];rfl
  have hi:((i:Int)+1)=((i+1:Nat):Int):=rfl
  simp only [W_law_seen_1,seenSt,rowsV,hl,hl',hg,hi,Int.toNat_natCast,eCst,eVar,eIdx,idxV,eBin,binV,addV,sTup,partsRun,Part.run,Option.bind_eq_bind,Option.bind_some,List.cons_append,List.nil_append,List.getElem?_cons_zero,List.getElem?_cons_succ,List.set_cons_zero,List.set_cons_succ,if_true,and_self,List.foldl_cons,List.foldl_nil,List.reverse_cons,List.reverse_nil]
noncomputable def lookL (L:List Row) (i:Nat):Option Nat×Nat:=match L.drop (i+1) with
  | []=>(none,i+2)
  | h::t=>(hueOf (h.headD none) (heads (t.take (manyOf (h.headD none)))),i+2+manyOf (h.headD none))
noncomputable def kindOf (R:List Row):Option Nat:=match R with
  | []=>none
  | h::_=>h.headD none
theorem lookL_eq (L:List Row) (i:Nat):lookL L i=(hueOf (kindOf (L.drop (i+1))) (heads (((L.drop (i+1)).drop 1).take (manyOf (kindOf (L.drop (i+1)))))),i+2+manyOf (kindOf (L.drop (i+1)))):=by
  unfold lookL kindOf
  cases L.drop (i+1) with
  | nil=>rfl
  | cons h t=>rfl
theorem seen3_look (a0 a1:V) {p:Pen} {L:List Row} (hL:RowsOk L) {i:Nat} (hi:i<L.length) (n:Nat) (x:V) (s9 s10 s11 s12 s13 s14:Slot) (h:n=38∨n=48∨n=58):
    ∃ t9 t10 t11 t12,W_law_seen_3 (seenSt a0 a1 p (i+1) (rowsV L) [.val (.lst [x]),.val (.int (n:Int)),s9,s10,s11,s12,s13,s14])=some (.next,seenSt a0 a1 (setHue n (lookL L i).1 p) (lookL L i).2 (rowsV L) [.val (.lst [x]),.val (.int (n:Int)),t9,t10,t11,t12,s13,s14]):=by
  rw [lookL_eq]
  dsimp only
  have hle:=hL.len
  obtain ⟨j,hj⟩:∃ j:Nat,(n=38∧j=0)∨(n=48∧j=1)∨(n=58∧j=2):=by
    rcases h with h | h | h
    · exact ⟨0,.inl ⟨h,rfl⟩⟩
    · exact ⟨1,.inr (.inl ⟨h,rfl⟩)⟩
    · exact ⟨2,.inr (.inr ⟨h,rfl⟩)⟩
  have hk:kindOf (L.drop (i+1))=(L[i+1]?.getD []).headD none:=by
    by_cases h2:i+1<L.length
    · rw [List.drop_eq_getElem_cons h2,List.getElem?_eq_getElem h2];rfl
    · rw [List.drop_of_length_le (by omega +splitDisjunctions),List.getElem?_eq_none (by omega +splitDisjunctions)];rfl
  generalize hkk:kindOf (L.drop (i+1))=k at hk ⊢
  have hm:=many_le k
  have hps:(heads (((L.drop (i+1)).drop 1).take (manyOf k))).length≤manyOf k:=by rw [heads_len];simp;omega +splitDisjunctions
  generalize hpp:heads (((L.drop (i+1)).drop 1).take (manyOf k))=ps at hps ⊢
  refine ⟨.val (.int (j:Int)),.val (pv (hueOf k ps)),.val (pv k),.val (.int ((manyOf k:Nat):Int)),?_⟩
  have hl':((L.map rowV).length≤lim)=True:=eq_true (by simpa using hL.lim)
  have hpos:((0:Int)≤((i+1:Nat):Int))=True:=eq_true (by omega +splitDisjunctions)
  unfold W_law_seen_3
  refine (sIf_true (st':=seenSt a0 a1 p (i+1) (rowsV L) [.val (.lst [x]),.val (.int (n:Int)),s9,s10,s11,s12,s13,s14]) ?_).trans ?_
  · rcases h with rfl | rfl | rfl <;> kernel_rfl
  refine (bCons_asg (d:= .int (j:Int)) (st':=seenSt a0 a1 p (i+1) (rowsV L) [.val (.lst [x]),.val (.int (n:Int)),s9,s10,s11,s12,s13,s14]) ?_).trans ?_
  · rcases hj with ⟨rfl,rfl⟩ | ⟨rfl,rfl⟩ | ⟨rfl,rfl⟩ <;> kernel_rfl
  refine (bCons_next (st':=seenSt a0 a1 p (i+2+manyOf k) (rowsV L) [.val (.lst [x]),.val (.int (n:Int)),.val (.int (j:Int)),.val (pv (hueOf k ps)),.val (pv k),.val (.int ((manyOf k:Nat):Int)),s13,s14]) ?_).trans ?_
  · refine (sIf_false (st':=seenSt a0 a1 p (i+1) (rowsV L) [.val (.lst [x]),.val (.int (n:Int)),.val (.int (j:Int)),s10,s11,s12,s13,s14]) ?_).trans ?_
    · kernel_rfl
    refine (bCons_asg (d:=pv k) (st':=seenSt a0 a1 p (i+1) (rowsV L) [.val (.lst [x]),.val (.int (n:Int)),.val (.int (j:Int)),s10,s11,s12,s13,s14]) ?_).trans ?_
    · by_cases h2:i+1<L.length
      · have hd:decide (((i+1:Nat):Int)<((L.map rowV).length:Int))=true:=by simp;omega +splitDisjunctions
        have hr:L[i+1]? =some L[i+1]:=List.getElem?_eq_getElem h2
        have hmem:L[i+1]∈L:=List.getElem_mem h2
        rw [hr] at hk
        generalize L[i+1]=r at hr hmem hk
        have hne:=hL.ne r hmem
        have hrl:=hL.rlim r hmem
        induction r using List.casesOn with
        | nil=>exact absurd rfl hne
        | cons y t=>
          have hg:(L.map rowV)[i+1]? =some (rowV (y::t)):=by rw [List.getElem?_map,hr];rfl
          have hrl':((t.map pv).length+1≤lim)=True:=eq_true (by simpa using hrl)
          have hky:k=y:=hk
          subst hky
          simp only [seenSt,rowsV,rowV,hl',hpos,hd,hg,hrl',Int.toNat_natCast,List.map_cons,List.length_cons,eCst,eVar,eIdx,idxV,tCmp,eIf,cmpV,i2B,eF1,lenV,Option.bind_eq_bind,Option.bind_some,List.getElem?_cons_zero,List.getElem?_cons_succ,if_true,and_self,Int.toNat_zero,Int.le_refl]
      · have hd:decide (((i+1:Nat):Int)<((L.map rowV).length:Int))=false:=by simp;omega +splitDisjunctions
        rw [List.getElem?_eq_none (by omega +splitDisjunctions)] at hk
        have hkn:k=none:=hk
        subst hkn
        simp only [seenSt,rowsV,hl',hd,pv,eCst,eVar,eIdx,idxV,tCmp,eIf,cmpV,i2B,eF1,lenV,Option.bind_eq_bind,Option.bind_some,List.getElem?_cons_zero,List.getElem?_cons_succ,Bool.false_eq_true,if_false,if_true,and_true]
    refine (bCons_asg (d:= .int ((manyOf k:Nat):Int)) (st':=seenSt a0 a1 p (i+1) (rowsV L) [.val (.lst [x]),.val (.int (n:Int)),.val (.int (j:Int)),s10,.val (pv k),s12,s13,s14]) ?_).trans ?_
    · have hnd:(([5,2]:List Int).Nodup)=True:=eq_true (by decide)
      simp only [seenSt,pairsRun,eDct,hnd,get_many,eCst,eVar,eF3,Option.bind_eq_bind,Option.bind_some,List.getElem?_cons_zero,List.getElem?_cons_succ,List.set_cons_zero,List.set_cons_succ,if_true]
    refine (bCons_asg (d:=pv (hueOf k ps)) (st':=seenSt a0 a1 p (i+1) (rowsV L) [.val (.lst [x]),.val (.int (n:Int)),.val (.int (j:Int)),s10,.val (pv k),.val (.int ((manyOf k:Nat):Int)),s13,s14]) ?_).trans ?_
    · have hc:=comp_head (L:=((L.drop (i+1)).drop 1).take (manyOf k)) (it:=iSeq (eL (lSlc (eVar 5) (some (eBin .Add (eVar 6) (eCst (.int 1)))) (some (eBin .Add (eBin .Add (eVar 6) (eCst (.int 1))) (eVar 12)))))) (st:=seenSt a0 a1 p (i+1) (rowsV L) [.val (.lst [x]),.val (.int (n:Int)),.val (.int (j:Int)),s10,.val (pv k),.val (.int ((manyOf k:Nat):Int)),s13,s14]) (st':=seenSt a0 a1 p (i+1) (rowsV L) [.val (.lst [x]),.val (.int (n:Int)),.val (.int (j:Int)),s10,.val (pv k),.val (.int ((manyOf k:Nat):Int)),s13,s14])
        (by
          have:=lSlc_rows hL (e:=eVar 5) (lo:=eBin .Add (eVar 6) (eCst (.int 1))) (hi:=eBin .Add (eBin .Add (eVar 6) (eCst (.int 1))) (eVar 12)) (st:=seenSt a0 a1 p (i+1) (rowsV L) [.val (.lst [x]),.val (.int (n:Int)),.val (.int (j:Int)),s10,.val (pv k),.val (.int ((manyOf k:Nat):Int)),s13,s14]) (a:=i+2) (b:=i+2+manyOf k) rfl rfl rfl (by omega +splitDisjunctions) (by omega +splitDisjunctions)
          rw [this,Nat.add_sub_cancel_left,List.drop_drop])
        (((hL.drop _).drop _).take _).ne (((hL.drop _).drop _).take _).rlim (((hL.drop _).drop _).take _).lim
      rw [hpp] at hc
      have hh:=hue_law k ps hps
      have h11:eVar 11 (seenSt a0 a1 p (i+1) (rowsV L) [.val (.lst [x]),.val (.int (n:Int)),.val (.int (j:Int)),s10,.val (pv k),.val (.int ((manyOf k:Nat):Int)),s13,s14])=some (pv k,seenSt a0 a1 p (i+1) (rowsV L) [.val (.lst [x]),.val (.int (n:Int)),.val (.int (j:Int)),s10,.val (pv k),.val (.int ((manyOf k:Nat):Int)),s13,s14]):=rfl
      show eCall F_law_hue _ (seenSt a0 a1 p (i+1) (rowsV L) [.val (.lst [x]),.val (.int (n:Int)),.val (.int (j:Int)),s10,.val (pv k),.val (.int ((manyOf k:Nat):Int)),s13,s14])=_
      simp only [eCall,evs,h11,eL_of hc,hh,Option.bind_eq_bind,Option.bind_some]
    refine (bCons_asg (d:= .int ((i+2+manyOf k:Nat):Int)) (st':=seenSt a0 a1 p (i+1) (rowsV L) [.val (.lst [x]),.val (.int (n:Int)),.val (.int (j:Int)),.val (pv (hueOf k ps)),.val (pv k),.val (.int ((manyOf k:Nat):Int)),s13,s14]) ?_).trans ?_
    · rfl
    · rfl
  · generalize hueOf k ps=c
    generalize i+2+manyOf k=i'
    generalize ((manyOf k:Nat):Int)=mm
    generalize pv k=pk
    rcases hj with ⟨rfl,rfl⟩ | ⟨rfl,rfl⟩ | ⟨rfl,rfl⟩ <;> induction c using Option.casesOn <;> kernel_rfl
theorem seen_test (a0 a1:V) (p:Pen) (i:Nat) {L:List Row} (hL:RowsOk L) (t:List Slot):W_law_seen_t (seenSt a0 a1 p i (rowsV L) t)=some (decide (i<L.length),seenSt a0 a1 p i (rowsV L) t):=by
  have hl':((L.map rowV).length≤lim)=True:=eq_true (by simpa using hL.lim)
  have hd:decide ((i:Int)<((L.map rowV).length:Int))=decide (i<L.length):=by simp
  simp only [W_law_seen_t,seenSt,rowsV,hl',hd,eVar,tCmp,cmpV,i2B,eF1,lenV,Option.bind_eq_bind,Option.bind_some,List.getElem?_cons_zero,List.getElem?_cons_succ,if_true]
theorem seen_body (a0 a1:V) {p:Pen} (i:Nat) {L:List Row} (hL:RowsOk L) {r:Row} (hr:L[i]? =some r) (s7 s8 s9 s10 s11 s12 s13 s14:Slot) {p':Pen} {j:Nat} {t:List Slot} (hg:GoodRow r)
    (h:W_law_seen_3 (seenSt a0 a1 p (i+1) (rowsV L) [.val (rowV r),.val (.int (numOf r:Int)),s9,s10,s11,s12,s13,s14])=some (.next,seenSt a0 a1 p' j (rowsV L) t)):
    W_law_seen_b (seenSt a0 a1 p i (rowsV L) [s7,s8,s9,s10,s11,s12,s13,s14])=some (.next,seenSt a0 a1 p' j (rowsV L) t):=by
  unfold W_law_seen_b
  exact (bCons_next (seen1 a0 a1 p i s7 _ hL hr)).trans ((bCons_next (seen2 a0 a1 .none (.int p.lo) (.int p.ln) (rowsV L) (.int ((i+1:Nat):Int)) _ s8 s9 s10 s11 s12 s13 s14 r hg)).trans ((bCons_next h).trans rfl))
theorem seen_loop (a0 a1:V) {L:List Row} (hL:RowsOk L) (hg:∀ r∈L,GoodRow r):∀ (k fuel i:Nat) (p:Pen) (s7 s8 s9 s10 s11 s12 s13 s14:Slot),WF p→L.length - i≤k→k<fuel→
    ∃ i' t',whileLoop W_law_seen_t W_law_seen_b fuel (seenSt a0 a1 p i (rowsV L) [s7,s8,s9,s10,s11,s12,s13,s14])=some (.next,seenSt a0 a1 (run k (L.drop i) p) i' (rowsV L) t'):=by
  intro k
  induction k with
  | zero=>
    intro fuel i p s7 s8 s9 s10 s11 s12 s13 s14 w h1 h2
    obtain ⟨n,rfl⟩:∃ n,fuel=n+1:=⟨fuel - 1,by lia⟩
    refine ⟨i,[s7,s8,s9,s10,s11,s12,s13,s14],?_⟩
    rw [whileLoop_stop ((seen_test a0 a1 p i hL _).trans (by rw [decide_eq_false (by lia)]))]
    rfl
  | succ k ih=>
    intro fuel i p s7 s8 s9 s10 s11 s12 s13 s14 w h1 h2
    obtain ⟨n,rfl⟩:∃ n,fuel=n+1:=⟨fuel - 1,by lia⟩
    by_cases hi:i<L.length
    · have ht:=(seen_test a0 a1 p i hL [s7,s8,s9,s10,s11,s12,s13,s14]).trans (by rw [decide_eq_true hi])
      have hr:L[i]? =some L[i]:=List.getElem?_eq_getElem hi
      have hd:L.drop i=L[i]::L.drop (i+1):=List.drop_eq_getElem_cons hi
      have hm:L[i]∈L:=List.getElem_mem hi
      generalize L[i]=r at hr hd hm
      rcases hg r hm with ⟨x,rfl⟩ | hmul
      · by_cases hn:x.getD 0=38∨x.getD 0=48∨x.getD 0=58
        · refine x41 (seen3_look a0 a1 (p:=p) hL hi (x.getD 0) (pv x) s9 s10 s11 s12 s13 s14 hn) ?_;intro t9 t10 t11 t12 h3
          have hb:=seen_body a0 a1 i hL hr s7 s8 s9 s10 s11 s12 s13 s14 (.inl ⟨x,rfl⟩) h3
          rw [whileLoop_step ht hb]
          have e:run (k+1) (L.drop i) p=run k (L.drop (lookL L i).2) (setHue (x.getD 0) (lookL L i).1 p):=by
            rw [hd]
            unfold lookL
            simp only [run,if_pos hn]
            cases hR:L.drop (i+1) with
            | nil=>
              dsimp only
              have:L.drop (i+2)=[]:=List.drop_of_length_le (by have:=congrArg List.length hR;simp at this;lia)
              rw [this,run_nil];rfl
            | cons h t=>
              dsimp only
              have:L.drop (i+2+manyOf (h.headD none))=t.drop (manyOf (h.headD none)):=by
                rw [show i+2+manyOf (h.headD none)=(i+1)+(1+manyOf (h.headD none)) by lia,← List.drop_drop,hR,Nat.add_comm 1,List.drop_succ_cons]
              rw [this]
          rw [e]
          refine ih n _ _ _ _ _ _ _ _ _ _ (wf_hue w ?_) ?_ (by lia)
          · intro c' hc
            unfold lookL at hc
            split at hc
            · exact noneE hc
            · exact hueOf_col hc
          · unfold lookL
            split <;> simp only <;> lia
        · refine x31 (seen3_plain a0 a1 (rowsV L) w (i+1) (x.getD 0) (pv x) s9 s10 s11 s12 s13 s14 (fun q=>hn (.inl q)) (fun q=>hn (.inr (.inl q))) (fun q=>hn (.inr (.inr q)))) ?_;intro t9 t13 t14 h3
          have hb:=seen_body a0 a1 i hL hr s7 s8 s9 s10 s11 s12 s13 s14 (.inl ⟨x,rfl⟩) h3
          rw [whileLoop_step ht hb,hd]
          simp only [run,if_neg hn]
          exact ih n _ _ _ _ _ _ _ _ _ _ (wf_plain _ w) (by lia) (by lia)
      · obtain ⟨t9,t10,t11,t12,t13,t14,h3⟩:=seen3_sub a0 a1 (rowsV L) (p:=p) (i+1) hmul s9 s10 s11 s12 s13 s14
        have hb:=seen_body a0 a1 i hL hr s7 s8 s9 s10 s11 s12 s13 s14 (.inr hmul) h3
        rw [whileLoop_step ht hb,hd]
        have e:run (k+1) (r::L.drop (i+1)) p=run k (L.drop (i+1)) (subAct r p):=by
          have hm':=hmul
          simp only [multis,List.mem_cons,List.not_mem_nil,or_false] at hm'
          rcases hm' with rfl | rfl | rfl | rfl | rfl | rfl | rfl | rfl | rfl | rfl | rfl | rfl | rfl | rfl <;> rfl
        rw [e]
        exact ih n _ _ _ _ _ _ _ _ _ _ (wf_sub w r hmul) (by lia) (by lia)
    · refine ⟨i,[s7,s8,s9,s10,s11,s12,s13,s14],?_⟩
      rw [whileLoop_stop ((seen_test a0 a1 p i hL _).trans (by rw [decide_eq_false hi])),List.drop_of_length_le (by lia)]
      rfl
theorem k_act (a:Act) (p:Pen):(doAct a p).k=p.k:=by cases a <;> rfl
theorem k_hue (n:Nat) (c:Option Nat) (p:Pen):(setHue n c p).k=p.k:=by
  unfold setHue
  induction c using Option.casesOn with
  | none=>rfl
  | some c=>
    dsimp only
    split
    · rfl
    · split <;> rfl
theorem k_ite {c:Prop} [Decidable c] {a b p:Pen} (h1:a.k=p.k) (h2:b.k=p.k):(if c then a else b).k=p.k:=by
  by_cases h:c
  · rw [if_pos h];exact h1
  · rw [if_neg h];exact h2
theorem k_sub (r:Row) (p:Pen):(subAct r p).k=p.k:=
  k_ite rfl (k_ite rfl (k_ite rfl (k_ite rfl (k_ite (match r.getD 1 none with | some _=>k_ite rfl rfl | none=>rfl) rfl))))
theorem run_link:∀ (k:Nat) (L:List Row) (p:Pen),(run k L p).k=p.k
  | 0,_,_=>rfl
  | _+1,[],_=>rfl
  | k+1,r::rest,p=>by
    unfold run
    split
    · split
      · split
        · rfl
        · rw [run_link k,k_hue]
      · rw [run_link k];exact k_act _ p
    · rw [run_link k,k_sub]
theorem wf_run:∀ (k:Nat) (L:List Row) (p:Pen),WF p→(∀ r∈L,GoodRow r)→WF (run k L p)
  | 0,_,_,w,_=>w
  | _+1,[],_,w,_=>w
  | k+1,r::rest,p,w,hg=>by
    have hr:=hg r (.head _)
    have hrest:∀ r∈rest,GoodRow r:=fun r m=>hg r (.tail _ m)
    unfold run
    split
    · split
      · split
        · exact w
        · rename_i h t
          refine wf_run k _ _ (wf_hue w fun c' hc=>hueOf_col hc) fun r m=>hrest r (.tail _ (List.mem_of_mem_drop m))
      · exact wf_run k _ _ (wf_plain _ w) hrest
    · rename_i hns
      rcases hr with ⟨x,rfl⟩ | hm
      · exact absurd rfl (hns x)
      · exact wf_run k _ _ (wf_sub w r hm) hrest
theorem seen_of {oct:List UInt8} {L:List Row} (hp:F_law_parted [.bytes oct]=some (rowsV L)) (hL:RowsOk L) (hg:∀ r∈L,GoodRow r) {p:Pen} (w:WF p):F_law_seen [penV p,.bytes oct]=some (penV (run L.length L p)):=by
  have e:F_law_seen [penV p,.bytes oct]=(F_law_seen_body [.val (penV p),.val (.bytes oct),.unset,.unset,.unset,.unset,.unset,.unset,.unset,.unset,.unset,.unset,.unset,.unset,.unset]).bind (fun x=>match x.1 with | .ret d=>some d | .next=>some .none):=rfl
  refine x21 (seen_loop (penV p) (.bytes oct) hL hg L.length 2000 0 p .unset .unset .unset .unset .unset .unset .unset .unset w (by lia) (by have:=hL.len;lia)) ?_;intro i' t' h
  rw [List.drop_zero] at h
  have hmod:(flV p).fmod 512=(p.lo:Int):=by
    rw [Int.fmod_eq_emod_of_nonneg _ (by decide)];have:=w.lo;unfold flV;lia
  have hdiv:(flV p).fdiv 512=(p.ln:Int):=by
    rw [Int.fdiv_eq_ediv_of_nonneg _ (by decide)];have:=w.lo;unfold flV;lia
  have h1:∀ r:SF,bCons (sTup true [(.l 2 (lOf (eSlc (eVar 0) (some (eCst (.int 1))) (some (eCst (.int 4)))))),(.v 3 (eBin .Mod (eIdx (eVar 0) (eCst (.int 0))) (eCst (.int 512)))),(.v 4 (eBin .FloorDiv (eIdx (eVar 0) (eCst (.int 0))) (eCst (.int 512))))]) r [.val (penV p),.val (.bytes oct),.unset,.unset,.unset,.unset,.unset,.unset,.unset,.unset,.unset,.unset,.unset,.unset,.unset]=
      r [.val (penV p),.val (.bytes oct),.own [.int p.f,.int p.b,.int p.u],.val (.int (p.lo:Int)),.val (.int (p.ln:Int)),.unset,.unset,.unset,.unset,.unset,.unset,.unset,.unset,.unset,.unset]:=by
    intro r
    refine bCons_next ?_
    rw [← hmod,← hdiv]
    kernel_rfl
  rw [e,W_law_seen_eq]
  unfold W_law_seen_h
  rw [h1]
  refine (congrArg (fun y:Option (Fl×St)=>y.bind (fun x=>match x.1 with | .ret d=>some d | .next=>some .none)) ((bCons_next (st':=seenSt (penV p) (.bytes oct) p 0 (rowsV L) [.unset,.unset,.unset,.unset,.unset,.unset,.unset,.unset]) ?_).trans (bCons_next (f:=sWhile 2000 _ _) h))).trans ?_
  · simp only [hp,seenSt,evs,eCst,eVar,eCall,sTup,partsRun,Part.run,Option.bind_eq_bind,Option.bind_some,List.cons_append,List.nil_append,List.getElem?_cons_zero,List.getElem?_cons_succ,List.set_cons_zero,List.set_cons_succ,if_true,List.foldl_cons,List.foldl_nil,List.reverse_cons,List.reverse_nil,Int.cast_ofNat_Int]
  · have hk:=run_link L.length L p
    have hw:=wf_run L.length L p w hg
    generalize run L.length L p=q at hk hw
    have hs:small 512=true:=rfl
    have hln:=hw.ln
    have hs2:small (q.ln:Int)=true:=by unfold small;rw [Int.natAbs_natCast];exact decide_eq_true (by lia)
    have hlim:∀ m:Nat,m<100→(m≤lim)=True:=fun m hm=>eq_true (by unfold lim;lia)
    simp only [seenSt,penV,hs,hs2,hlim,hk,flV,List.length_cons,List.length_nil,bCons,bNil,eTup,evs,eCst,eVar,eIdx,idxV,eBin,binV,addV,i2V,sRet,listS,eGetS,Option.bind_eq_bind,Option.bind_some,Nat.zero_add,Nat.reduceAdd,List.getElem?_cons_zero,List.getElem?_cons_succ,Int.reduceLE,Nat.reduceLT,if_true,and_self,true_and,Int.toNat_zero,Int.reduceToNat,Int.le_refl,Bool.and_self]
end Mine.P
end
section
open PySem
set_option linter.unusedVariables false
namespace Mine.P
noncomputable def valStep (v:Option Nat) (c:UInt8):Option Nat:=some (min (v.getD 0*10+(c.toNat - 48)) 65535)
noncomputable def valOf (bs:List UInt8):Option Nat:=bs.foldl valStep none
noncomputable def isKept (c:UInt8):Bool:=decide (48≤c.toNat) && decide (c.toNat≤59)
noncomputable def keep (oct:List UInt8):List UInt8:=oct.filter isKept
noncomputable def partRow (one:List UInt8):Row:=(splitB 58 one).map valOf
noncomputable def allRows (oct:List UInt8):List Row:=(splitB 59 (keep oct)).map partRow
noncomputable def lawRows (oct:List UInt8):List Row:=(allRows oct).take 32
noncomputable def ValOk (v:Option Nat):Prop:=v.getD 0≤65535
theorem valStep_ok (v:Option Nat) (c:UInt8):ValOk (valStep v c):=by
  show min _ 65535≤65535;exact Nat.min_le_right _ _
theorem split_ne (c:UInt8) (l:List UInt8):splitB c l≠[]:=by
  induction l using List.casesOn with
  | nil=>simp [splitB]
  | cons x r=>
    unfold splitB
    split
    · simp
    · split <;> simp
theorem split_cons (c x:UInt8) (r:List UInt8):splitB c (x::r)=if x==c then []::splitB c r else match splitB c r with | []=>[[x]] | p::ps=>(x::p)::ps:=rfl
theorem split_len (c:UInt8):∀ l:List UInt8,(splitB c l).length≤l.length+1
  | []=>by simp [splitB]
  | x::r=>by
    have:=split_len c r
    rw [split_cons]
    split
    · simp;lia
    · split
      · simp
      · rename_i p ps h;rw [h] at this;simp at this ⊢;lia
theorem split_mem (c:UInt8):∀ (l:List UInt8) (p:List UInt8),p∈splitB c l→p.length≤l.length∧∀ x∈p,x∈l∧x≠c
  | [],p,h=>by
    rw [show splitB c []=[[]] from rfl,List.mem_singleton] at h
    subst h;simp
  | y::r,p,h=>by
    have ih:=split_mem c r
    rw [split_cons] at h
    split at h
    · rcases List.mem_cons.mp h with rfl | h
      · simp
      · have:=ih p h
        exact ⟨by simp;lia,fun x hx=>⟨.tail _ (this.2 x hx).1,(this.2 x hx).2⟩⟩
    · rename_i hy
      have hy':y≠c:=fun e=>hy (beq_iff_eq.mpr e)
      split at h
      · rename_i h0;exact absurd h0 (split_ne c r)
      · rename_i q qs h0
        rcases List.mem_cons.mp h with rfl | h
        · have:=ih q (by rw [h0];exact .head _)
          refine ⟨by simp;lia,fun x hx=> ?_⟩
          rcases List.mem_cons.mp hx with rfl | hx
          · exact ⟨.head _,hy'⟩
          · exact ⟨.tail _ (this.2 x hx).1,(this.2 x hx).2⟩
        · have:=ih p (by rw [h0];exact .tail _ h)
          exact ⟨by simp;lia,fun x hx=>⟨.tail _ (this.2 x hx).1,(this.2 x hx).2⟩⟩
theorem keep_mem {oct:List UInt8} {x:UInt8} (h:x∈keep oct):48≤x.toNat∧x.toNat≤59:=by
  have:=(List.mem_filter.mp h).2
  simpa [isKept] using this
noncomputable def DigOk (bs:List UInt8):Prop:=∀ x∈bs,48≤x.toNat∧x.toNat≤57
theorem min_int (a:Nat):(if (65535:Int)<(a:Int) then (65535:Int) else (a:Int))=((min a 65535:Nat):Int):=by
  split <;> lia
theorem value_body (a:Slot) (v:Option Nat) (hv:ValOk v) (c:UInt8) (hc:48≤c.toNat):
    (bCons (sAsg 1 (eF2 minV (eBin .Sub (eBin .Add (eBin .Mult (eIf (tCmp .Is (eVar 1) (eCst .none)) (eCst (.int 0)) (eVar 1)) (eCst (.int 10))) (eVar 2)) (eCst (.int 48))) (eCst (.int 65535)))) bNil) [a,.val (pv v),.val (.int (c.toNat:Int))]=
    some (.next,[a,.val (pv (valStep v c)),.val (.int (c.toNat:Int))]):=by
  have hs:∀ m:Nat,m≤65535→small (m:Int)=true:=fun m hm=>by unfold small;rw [Int.natAbs_natCast];exact decide_eq_true (by lia)
  have hs0:small 0=true:=rfl
  have hs10:small 10=true:=rfl
  induction v using Option.casesOn with
  | none=>
    have e:(0*10+(c.toNat:Int) - 48)=((0*10+(c.toNat - 48):Nat):Int):=by lia
    have e':(0+(c.toNat:Int) - 48)=((0*10+(c.toNat - 48):Nat):Int):=by lia
    have m:=min_int (0*10+(c.toNat - 48))
    simp only [pv,valStep,Option.getD_none,hs0,hs10,minV,e',m,bCons,bNil,sAsg,eCst,eVar,tCmp,eIf,cmpV,isV,eBin,binV,addV,i2V,eF2,Option.bind_eq_bind,Option.bind_some,List.getElem?_cons_zero,List.getElem?_cons_succ,List.set_cons_zero,List.set_cons_succ,Int.reduceMul,if_true,Bool.not_true,Bool.and_self]
  | some n=>
    have hn:n≤65535:=hv
    have e:((n:Int)*10+(c.toNat:Int) - 48)=((n*10+(c.toNat - 48):Nat):Int):=by lia
    have m:=min_int (n*10+(c.toNat - 48))
    simp only [pv,valStep,Option.getD_some,hs n hn,hs10,minV,e,m,bCons,bNil,sAsg,eCst,eVar,tCmp,eIf,cmpV,isV,eBin,binV,addV,i2V,eF2,Option.bind_eq_bind,Option.bind_some,List.getElem?_cons_zero,List.getElem?_cons_succ,List.set_cons_zero,List.set_cons_succ,Bool.false_eq_true,if_false,if_true,Bool.not_true,Bool.and_self]
theorem value_loop (a:Slot):∀ (bs:List UInt8) (v:Option Nat) (s:Slot),ValOk v→DigOk bs→
    ∃ s',forLoop [2] (bCons (sAsg 1 (eF2 minV (eBin .Sub (eBin .Add (eBin .Mult (eIf (tCmp .Is (eVar 1) (eCst .none)) (eCst (.int 0)) (eVar 1)) (eCst (.int 10))) (eVar 2)) (eCst (.int 48))) (eCst (.int 65535)))) bNil) (bs.map fun c=> .int (c.toNat:Int)) [a,.val (pv v),s]=some (.next,[a,.val (pv (bs.foldl valStep v)),s'])
  | [],v,s,_,_=>⟨s,rfl⟩
  | c::bs,v,s,hv,hd=>by
    refine x11 (value_loop a bs (valStep v c) (.val (.int (c.toNat:Int))) (valStep_ok v c) fun x hx=>hd x (.tail _ hx)) ?_;intro s' h
    refine ⟨s',?_⟩
    have hb:=value_body a v hv c (hd c (.head _)).1
    simp only [List.map_cons,forLoop_c,bindT1,List.set_cons_zero,List.set_cons_succ,Option.bind_eq_bind,Option.bind_some,hb,h,List.foldl_cons]
theorem items_bytes {bs:List UInt8} (h:bs.length≤lim):itemsV (.bytes bs)=some (bs.map fun c=> .int (c.toNat:Int)):=by
  exact if_pos h
theorem value_of {bs:List UInt8} (hl:bs.length≤lim) (hd:DigOk bs):F_law_value [.bytes bs]=some (pv (valOf bs)):=by
  have e:F_law_value [.bytes bs]=(F_law_value_body [.val (.bytes bs),.unset,.unset]).bind (fun x=>match x.1 with | .ret d=>some d | .next=>some .none):=rfl
  refine x11 (value_loop (.val (.bytes bs)) bs none .unset (by unfold ValOk;simp) hd) ?_;intro s' h
  have hi:=items_bytes hl
  rw [e]
  unfold F_law_value_body
  rw [bCons_asg (d:=V.none) (st':=[.val (.bytes bs),.unset,.unset]) rfl]
  have h2:sFor [2] (iSeq (eVar 0)) (bCons (sAsg 1 (eF2 minV (eBin .Sub (eBin .Add (eBin .Mult (eIf (tCmp .Is (eVar 1) (eCst .none)) (eCst (.int 0)) (eVar 1)) (eCst (.int 10))) (eVar 2)) (eCst (.int 48))) (eCst (.int 65535)))) bNil) [.val (.bytes bs),.val (pv none),.unset]=some (.next,[.val (.bytes bs),.val (pv (valOf bs)),s']):=by
    simp only [sFor,iSeq,eVar,List.getElem?_cons_zero,hi,Option.bind_eq_bind,Option.bind_some]
    exact h
  refine (congrArg (fun y:Option (Fl×St)=>y.bind (fun x=>match x.1 with | .ret d=>some d | .next=>some .none)) (bCons_next h2)).trans ?_
  rfl
theorem comp_keep:∀ (oct:List UInt8) (s:Slot),∃ s',compLoop [0] [tCmp2 .LtE .LtE (eCst (.int 48)) (eVar 0) (eCst (.int 59))] (eVar 0) (oct.map fun c=> .int (c.toNat:Int)) [s]=some ((keep oct).map (fun c=> .int (c.toNat:Int)),[s'])
  | [],s=>⟨s,rfl⟩
  | c::oct,s=>by
    refine x11 (comp_keep oct (.val (.int (c.toNat:Int)))) ?_;intro s' h
    refine ⟨s',?_⟩
    have ht:tests [tCmp2 .LtE .LtE (eCst (.int 48)) (eVar 0) (eCst (.int 59))] [.val (.int (c.toNat:Int))]=some (isKept c,[.val (.int (c.toNat:Int))]):=by
      have e1:decide ((48:Int)≤(c.toNat:Int))=decide (48≤c.toNat):=by apply decide_eq_decide.mpr;lia
      have e2:decide ((c.toNat:Int)≤(59:Int))=decide (c.toNat≤59):=by apply decide_eq_decide.mpr;lia
      unfold isKept
      cases h1:decide (48≤c.toNat) <;> cases h2:decide (c.toNat≤59) <;> rw [h1] at e1 <;> rw [h2] at e2 <;> simp only [tests,e1,e2,eCst,eVar,tCmp2,cmpV,i2B,Option.bind_eq_bind,Option.bind_some,List.getElem?_cons_zero,Bool.false_eq_true,if_false,if_true,ite_self,Bool.and_true,Bool.and_false,Bool.and_self]
    have hv:eVar 0 [.val (.int (c.toNat:Int))]=some (.int (c.toNat:Int),[.val (.int (c.toNat:Int))]):=rfl
    unfold keep
    simp only [List.map_cons,compLoop_c,bindT1,List.set_cons_zero,Option.bind_eq_bind,Option.bind_some,ht,List.filter_cons]
    cases hk:isKept c
    · simp only [Bool.false_eq_true,if_false];exact h
    · simp only [if_true,hv,Option.bind_some,h,List.map_cons];rfl
theorem ints_bytes:∀ bs:List UInt8,intsOf (bs.map fun c=>V.int (c.toNat:Int))=some (bs.map fun c=>(c.toNat:Int))
  | []=>rfl
  | c::r=>by simp only [List.map_cons,intsOf,ints_bytes r,Option.map_some]
theorem bytesV_of {bs:List UInt8} (h:bs.length≤lim):bytesV (.lst (bs.map fun c=> .int (c.toNat:Int)))=some (.bytes bs):=by
  dsimp only [bytesV]
  rw [if_pos (by simpa using h),ints_bytes]
  dsimp only
  rw [if_pos]
  · congr 2
    rw [List.map_map]
    conv=>rhs;rw [← List.map_id bs]
    apply List.map_congr_left
    intro c _
    show (c.toNat:Int).toNat.toUInt8=c
    rw [Int.toNat_natCast]
    exact UInt8.ofNat_toNat
  · rw [List.all_eq_true]
    intro n hn
    refine x12 (List.mem_map.mp hn) ?_;intro c _ hq2;subst hq2
    have:=c.toNat_lt
    simp
    lia
theorem keep_len (oct:List UInt8):(keep oct).length≤oct.length:=List.length_filter_le _ _
theorem eF1_of {f:V→Option V} {a:EF} {st st':St} {x r:V} (h:a st=some (x,st')) (hf:f x=some r):eF1 f a st=some (r,st'):=by
  simp only [eF1,h,hf,Option.bind_eq_bind,Option.bind_some]
theorem part_elt {one:List UInt8} (hl:one.length+1≤lim) (hd:∀ x∈one,48≤x.toNat∧x.toNat≤58):
    eL (lCompA (iSeq (eL (lF2 splitV (eVar 0) (eCst (.bytes [58]))))) [] (eCall F_law_value [(eVar 0)])) [.val (.bytes one)]=some (rowV (partRow one),[.val (.bytes one)]):=by
  have hl1:(one.length≤lim)=True:=eq_true (Nat.le_trans (Nat.le_succ _) hl)
  have hl2:(((splitB 58 one).map V.bytes).length≤lim)=True:=eq_true (by have:=split_len 58 one;rw [List.length_map];lia)
  have hc:=comp_map (it:=iSeq (eL (lF2 splitV (eVar 0) (eCst (.bytes [58]))))) (elt:=eCall F_law_value [(eVar 0)]) (g:=fun d=>match d with | .bytes b=>pv (valOf b) | d=>d) (items:=(splitB 58 one).map V.bytes) (st:=[.val (.bytes one)]) (st':=[.val (.bytes one)])
    (by simp only [iSeq,eL,lF2,eVar,eCst,splitV,List.getElem?_cons_zero,hl1,if_true,Option.bind_eq_bind,Option.bind_some,itemsV,hl2])
    (by
      intro d hd'
      refine x12 (List.mem_map.mp hd') ?_;intro b hb hq2;subst hq2
      have hm:=split_mem 58 one b hb
      have hv:=value_of (bs:=b) (Nat.le_trans hm.1 (Nat.le_trans (Nat.le_succ _) hl)) (fun x hx=>by
        have h1:=hm.2 x hx
        have h2:=hd x h1.1
        have h3:x.toNat≠58:=fun e=>h1.2 (UInt8.toNat_inj.mp e)
        lia)
      simp only [eCall,evs,eVar,List.getElem?_cons_zero,hv,Option.bind_eq_bind,Option.bind_some])
    (by rw [hl2];trivial)
  rw [eL_of hc,List.map_map]
  unfold rowV partRow
  rw [List.map_map]
  rfl
theorem parted_of {oct:List UInt8} (hl:oct.length+1≤lim):F_law_parted [.bytes oct]=some (rowsV (lawRows oct)):=by
  have e:F_law_parted [.bytes oct]=(F_law_parted_body [.val (.bytes oct),.unset]).bind (fun x=>match x.1 with | .ret d=>some d | .next=>some .none):=rfl
  have hl0:oct.length≤lim:=Nat.le_trans (Nat.le_succ _) hl
  have hk:=keep_len oct
  have hkl:(keep oct).length≤lim:=Nat.le_trans hk hl0
  refine x11 (comp_keep oct .unset) ?_;intro s' h1
  have h2:lCompA (iSeq (eVar 0)) [(tCmp2 .LtE .LtE (eCst (.int 48)) (eVar 0) (eCst (.int 59)))] (eVar 0) [.val (.bytes oct),.unset]=some ((keep oct).map (fun c=> .int (c.toNat:Int)),[.val (.bytes oct),.unset]):=by
    have hl':(((keep oct).map fun c=>V.int (c.toNat:Int)).length≤lim)=True:=eq_true (by rw [List.length_map];exact hkl)
    simp only [lCompA,iSeq,eVar,List.getElem?_cons_zero,items_bytes hl0,Option.bind_eq_bind,Option.bind_some,h1,hl',if_true]
  rw [e]
  unfold F_law_parted_body
  refine (congrArg (fun y:Option (Fl×St)=>y.bind (fun x=>match x.1 with | .ret d=>some d | .next=>some .none)) (bCons_asg (eF1_of (eL_of h2) (bytesV_of hkl)))).trans ?_
  by_cases h0:keep oct=[]
  · rw [show lawRows oct=[[none]] by unfold lawRows allRows;rw [h0];rfl,h0]
    kernel_rfl
  · have hne:(keep oct==[])=false:=by simpa using h0
    have hsplit:(((splitB 59 (keep oct)).map V.bytes).length≤lim)=True:=eq_true (by have:=split_len 59 (keep oct);rw [List.length_map];lia)
    have hc:=comp_map (it:=iSeq (eL (lF2 splitV (eVar 1) (eCst (.bytes [59]))))) (elt:=eL (lCompA (iSeq (eL (lF2 splitV (eVar 0) (eCst (.bytes [58]))))) [] (eCall F_law_value [(eVar 0)]))) (g:=fun d=>match d with | .bytes b=>rowV (partRow b) | d=>d) (items:=(splitB 59 (keep oct)).map V.bytes) (st:=[.val (.bytes oct),.val (.bytes (keep oct))]) (st':=[.val (.bytes oct),.val (.bytes (keep oct))])
      (by simp only [iSeq,eL,lF2,eVar,eCst,splitV,List.getElem?_cons_zero,List.getElem?_cons_succ,hkl,if_true,Option.bind_eq_bind,Option.bind_some,itemsV,hsplit])
      (by
        intro d hd'
        refine x12 (List.mem_map.mp hd') ?_;intro b hb hq2;subst hq2
        have hm:=split_mem 59 (keep oct) b hb
        exact part_elt (by lia) (fun x hx=>by
          have h1:=hm.2 x hx
          have h2:=keep_mem h1.1
          have h3:x.toNat≠59:=fun e=>h1.2 (UInt8.toNat_inj.mp e)
          lia))
      (by rw [hsplit];trivial)
    have hc2:lCompA (iSeq (eL (lF2 splitV (eVar 1) (eCst (.bytes [59]))))) [] (eL (lCompA (iSeq (eL (lF2 splitV (eVar 0) (eCst (.bytes [58]))))) [] (eCall F_law_value [(eVar 0)]))) [.val (.bytes oct),.val (.bytes (keep oct))]=some ((allRows oct).map rowV,[.val (.bytes oct),.val (.bytes (keep oct))]):=by
      rw [hc,List.map_map];unfold allRows;rw [List.map_map];rfl
    have hal:(((allRows oct).map rowV).length≤lim)=True:=eq_true (by unfold allRows;simpa using hsplit)
    have hs:lSlc (eL (lCompA (iSeq (eL (lF2 splitV (eVar 1) (eCst (.bytes [59]))))) [] (eL (lCompA (iSeq (eL (lF2 splitV (eVar 0) (eCst (.bytes [58]))))) [] (eCall F_law_value [(eVar 0)]))))) none (some (eCst (.int 32))) [.val (.bytes oct),.val (.bytes (keep oct))]=some ((lawRows oct).map rowV,[.val (.bytes oct),.val (.bytes (keep oct))]):=by
      have hs32:small 32=true:=rfl
      have hcut:cut ((allRows oct).map rowV) none (some 32)=(lawRows oct).map rowV:=by
        have:=cut_to ((allRows oct).map rowV) 32
        unfold lawRows
        rw [List.map_take]
        exact this
      simp only [lSlc,eL_of hc2,opt,eCst,smallO,hs32,hal,hcut,Option.bind_eq_bind,Option.bind_some,decide_true,Bool.and_self,if_true]
    have ht:tCmp .Eq (eVar 1) (eCst (.bytes [])) [.val (.bytes oct),.val (.bytes (keep oct))]=some (false,[.val (.bytes oct),.val (.bytes (keep oct))]):=by
      simp only [hne,eCst,eVar,tCmp,cmpV,eqV,Option.bind_eq_bind,Option.bind_some,List.getElem?_cons_zero,List.getElem?_cons_succ]
    have h3:sIf (tCmp .Eq (eVar 1) (eCst (.bytes []))) (bCons (sRet (eL (lDisp [(eL (lDisp [(eCst .none)]))]))) bNil) bNil [.val (.bytes oct),.val (.bytes (keep oct))]=some (.next,[.val (.bytes oct),.val (.bytes (keep oct))]):=(sIf_false ht).trans rfl
    refine (congrArg (fun y:Option (Fl×St)=>y.bind (fun x=>match x.1 with | .ret d=>some d | .next=>some .none)) (bCons_next h3)).trans ?_
    simp only [bCons,sRet,eL_of hs,Option.bind_eq_bind,Option.bind_some]
    rfl
end Mine.P
end
section
open PySem
set_option linter.unusedVariables false
namespace Mine.P
structure Mc where
  done:List Row
  cur:Row
  v:Option Nat
  b:Bool
noncomputable def Mc.step (m:Mc) (c:UInt8):Mc:=
  if 48≤c.toNat∧c.toNat≤57 then { m with v:=valStep m.v c,b:=true}
  else if c.toNat=58 then ⟨m.done,m.cur++[m.v],none,true⟩
  else if c.toNat=59 then ⟨m.done++[m.cur++[m.v]],[],none,true⟩
  else m
noncomputable def cap (l:List Row):List Row:=(l.map (List.take 32)).take 32
noncomputable def Mc.fs (m:Mc):List Slot:=[.val (.int 32),.val (.int 65535),.own ((cap m.done).map rowV),.own ((m.cur.take 32).map pv),.val (pv m.v),.val (.bool m.b)]
theorem take_snoc {α:Type} (l:List α) (x:α) (n:Nat):(if (l.take n).length<n then l.take n++[x] else l.take n)=(l++[x]).take n:=by
  rw [List.length_take]
  by_cases h:l.length<n
  · rw [if_pos (by lia),List.take_of_length_le (by lia:l.length≤n),List.take_of_length_le (by simp;lia)]
  · rw [if_neg (by lia),List.take_append_of_le_length (by lia)]
theorem close_part_of (m:Mc):F_close_part m.fs []=some (.none,Mc.fs ⟨m.done,m.cur++[m.v],none,m.b⟩):=by
  have hl:((m.cur.take 32).map pv).length=(m.cur.take 32).length:=by simp
  have hl2:(m.cur.take 32).length≤32:=by simp;lia
  have e:F_close_part m.fs []=(F_close_part_body m.fs).bind (fun x=>match x.1 with | .ret d=>some (d,x.2.drop 0) | .next=>some (.none,x.2.drop 0)):=rfl
  have ht:tCmp .Lt (eLenS 3) (eVar 0) m.fs=some (decide ((m.cur.take 32).length<32),m.fs):=by
    have h1:(((m.cur.take 32).map pv).length≤lim)=True:=eq_true (by rw [hl];exact lim_ge (by lia))
    have h2:decide ((((m.cur.take 32).map pv).length:Int)<32)=decide ((m.cur.take 32).length<32):=by rw [hl];apply decide_eq_decide.mpr;lia
    simp only [Mc.fs,h1,h2,eVar,tCmp,cmpV,i2B,lenV,listS,eLenS,Option.bind_eq_bind,Option.bind_some,List.getElem?_cons_zero,List.getElem?_cons_succ,if_true]
  have hs:sIf (tCmp .Lt (eLenS 3) (eVar 0)) (bCons (sApp 3 (eVar 4)) bNil) bNil m.fs=some (.next,[.val (.int 32),.val (.int 65535),.own ((cap m.done).map rowV),.own (((m.cur++[m.v]).take 32).map pv),.val (pv m.v),.val (.bool m.b)]):=by
    rw [← take_snoc]
    by_cases h:(m.cur.take 32).length<32
    · rw [decide_eq_true h] at ht
      have h1:(((m.cur.take 32).map pv).length<lim)=True:=eq_true (by rw [hl];unfold lim;lia)
      rw [sIf_true ht,if_pos h,List.map_append]
      simp only [Mc.fs,h1,List.map_cons,List.map_nil,bCons,bNil,eVar,sApp,listS,Option.bind_eq_bind,Option.bind_some,List.getElem?_cons_zero,List.getElem?_cons_succ,List.set_cons_zero,List.set_cons_succ,if_true]
    · rw [decide_eq_false h] at ht
      rw [sIf_false ht,if_neg h]
      rfl
  rw [e]
  unfold F_close_part_body
  refine (congrArg (fun y:Option (Fl×St)=>y.bind _) (bCons_next hs)).trans ?_
  rfl
theorem close_parameter_of (m:Mc):F_close_parameter m.fs []=some (.none,Mc.fs ⟨m.done++[m.cur],[],m.v,m.b⟩):=by
  have hl:((cap m.done).map rowV).length=(cap m.done).length:=by simp
  have hl2:(cap m.done).length≤32:=by unfold cap;simp;lia
  have e:F_close_parameter m.fs []=(F_close_parameter_body m.fs).bind (fun x=>match x.1 with | .ret d=>some (d,x.2.drop 0) | .next=>some (.none,x.2.drop 0)):=rfl
  have ht:tCmp .Lt (eLenS 2) (eVar 0) m.fs=some (decide ((cap m.done).length<32),m.fs):=by
    have h1:(((cap m.done).map rowV).length≤lim)=True:=eq_true (by rw [hl];exact lim_ge (by lia))
    have h2:decide ((((cap m.done).map rowV).length:Int)<32)=decide ((cap m.done).length<32):=by rw [hl];apply decide_eq_decide.mpr;lia
    simp only [Mc.fs,h1,h2,eVar,tCmp,cmpV,i2B,lenV,listS,eLenS,Option.bind_eq_bind,Option.bind_some,List.getElem?_cons_zero,List.getElem?_cons_succ,if_true]
  have hcap:cap (m.done++[m.cur])=if (cap m.done).length<32 then cap m.done++[m.cur.take 32] else cap m.done:=by
    unfold cap
    rw [take_snoc,List.map_append];rfl
  have hs:∃ s,sIf (tCmp .Lt (eLenS 2) (eVar 0)) (bCons (sApp 2 (eVar 3)) bNil) bNil m.fs=some (.next,[.val (.int 32),.val (.int 65535),.own ((cap (m.done++[m.cur])).map rowV),s,.val (pv m.v),.val (.bool m.b)]):=by
    rw [hcap]
    by_cases h:(cap m.done).length<32
    · rw [decide_eq_true h] at ht
      have h1:(((cap m.done).map rowV).length<lim)=True:=eq_true (by rw [hl];unfold lim;lia)
      refine ⟨.val (rowV (m.cur.take 32)),?_⟩
      rw [sIf_true ht,if_pos h,List.map_append]
      simp only [Mc.fs,h1,List.map_cons,List.map_nil,bCons,bNil,eVar,sApp,listS,Option.bind_eq_bind,Option.bind_some,List.getElem?_cons_zero,List.getElem?_cons_succ,List.set_cons_zero,List.set_cons_succ,if_true]
      rfl
    · rw [decide_eq_false h] at ht
      refine ⟨.own ((m.cur.take 32).map pv),?_⟩
      rw [sIf_false ht,if_neg h]
      rfl
  refine x11 hs ?_;(try clear hs);intro s hs
  rw [e]
  unfold F_close_parameter_body
  refine (congrArg (fun y:Option (Fl×St)=>y.bind _) (bCons_next hs)).trans ?_
  rfl
theorem put_of (m:Mc) (hv:ValOk m.v) (c:UInt8):∃ r,F_put m.fs [.int (c.toNat:Int)]=some (.bool r,(m.step c).fs):=by
  have e:F_put m.fs [.int (c.toNat:Int)]=(F_put_body (.val (.int (c.toNat:Int)):: .unset::m.fs)).bind (fun x=>match x.1 with | .ret d=>some (d,x.2.drop 2) | .next=>some (.none,x.2.drop 2)):=rfl
  have h255:=c.toNat_lt
  rw [e]
  unfold Mc.step
  by_cases h1:48≤c.toNat∧c.toNat≤57
  · rw [if_pos h1]
    refine ⟨true,?_⟩
    have d1:decide ((48:Int)≤(c.toNat:Int))=true:=decide_eq_true (by lia)
    have d2:decide ((c.toNat:Int)≤57)=true:=decide_eq_true (by lia)
    have hs:∀ m:Nat,m≤65535→small (m:Int)=true:=fun m hm=>by unfold small;rw [Int.natAbs_natCast];exact decide_eq_true (by lia)
    have hs0:small 0=true:=rfl
    have hs10:small 10=true:=rfl
    have mi:∀ a:Nat,(if (a:Int)<65535 then (a:Int) else (65535:Int))=((min a 65535:Nat):Int):=fun a=>by split <;> lia
    obtain ⟨dn,cr,v,b⟩:=m
    induction v using Option.casesOn with
    | none=>
      have e':(0+(c.toNat:Int) - 48)=((0*10+(c.toNat - 48):Nat):Int):=by lia
      have e'':(0*10+(c.toNat:Int) - 48)=((0*10+(c.toNat - 48):Nat):Int):=by lia
      simp only [F_put_body,Mc.fs,pv,valStep,Option.getD_none,hs0,hs10,minV,e',mi,d1,d2,bCons,bNil,sAsg,sIf,eCst,eVar,tCmp,tCmp2,eIf,cmpV,i2B,isV,eqV,eBin,binV,addV,i2V,sRet,eF2,sExpr,plainV,Option.bind_eq_bind,Option.bind_some,List.getElem?_cons_zero,List.getElem?_cons_succ,List.set_cons_zero,List.set_cons_succ,Int.reduceMul,if_true,G_FIGURE_FIRST,G_FIGURE_LAST,G_COLON,G_SEMICOLON,Bool.not_true,Bool.and_self]
      rfl
    | some n=>
      have hn:n≤65535:=hv
      have e':((n:Int)*10+(c.toNat:Int) - 48)=((n*10+(c.toNat - 48):Nat):Int):=by lia
      simp only [F_put_body,Mc.fs,pv,valStep,Option.getD_some,hs n hn,hs10,minV,e',mi,d1,d2,bCons,bNil,sAsg,sIf,eCst,eVar,tCmp,tCmp2,eIf,cmpV,i2B,isV,eqV,eBin,binV,addV,i2V,sRet,eF2,sExpr,plainV,Option.bind_eq_bind,Option.bind_some,List.getElem?_cons_zero,List.getElem?_cons_succ,List.set_cons_zero,List.set_cons_succ,Bool.false_eq_true,if_false,if_true,G_FIGURE_FIRST,G_FIGURE_LAST,G_COLON,G_SEMICOLON,Bool.not_true,Bool.and_self]
      rfl
  · rw [if_neg h1]
    have ht1:tCmp2 .LtE .LtE (eCst G_FIGURE_FIRST) (eVar 0) (eCst G_FIGURE_LAST) (.val (.int (c.toNat:Int)):: .unset::m.fs)=some (false,.val (.int (c.toNat:Int)):: .unset::m.fs):=by
      by_cases h2:48≤c.toNat
      · have d1:decide ((48:Int)≤(c.toNat:Int))=true:=decide_eq_true (by lia)
        have d2:decide ((c.toNat:Int)≤57)=false:=decide_eq_false (by lia)
        simp only [Mc.fs,d1,d2,eCst,eVar,tCmp2,cmpV,i2B,Option.bind_eq_bind,Option.bind_some,List.getElem?_cons_zero,ite_self,G_FIGURE_FIRST,G_FIGURE_LAST]
      · have d1:decide ((48:Int)≤(c.toNat:Int))=false:=decide_eq_false (by lia)
        simp only [Mc.fs,d1,eCst,eVar,tCmp2,cmpV,i2B,Option.bind_eq_bind,Option.bind_some,List.getElem?_cons_zero,Bool.false_eq_true,if_false,G_FIGURE_FIRST,G_FIGURE_LAST]
    have hcp:=close_part_of m
    have hcq:=close_parameter_of ⟨m.done,m.cur++[m.v],none,m.b⟩
    have call1:∀ s t,sExpr (eCallO 2 F_close_part []) (s::t::m.fs)=some (.next,s::t::Mc.fs ⟨m.done,m.cur++[m.v],none,m.b⟩):=fun s t=>by
      simp only [sExpr,eCallO,evs,Option.bind_eq_bind,Option.bind_some,List.drop_succ_cons,List.drop_zero,hcp,plainV,if_true,List.take_succ_cons,List.take_zero]
      rfl
    have call2:∀ s t,sExpr (eCallO 2 F_close_parameter []) (s::t::Mc.fs ⟨m.done,m.cur++[m.v],none,m.b⟩)=some (.next,s::t::Mc.fs ⟨m.done++[m.cur++[m.v]],[],none,m.b⟩):=fun s t=>by
      simp only [sExpr,eCallO,evs,Option.bind_eq_bind,Option.bind_some,List.drop_succ_cons,List.drop_zero,hcq,plainV,if_true,List.take_succ_cons,List.take_zero]
      rfl
    unfold F_put_body
    by_cases h58:c.toNat=58
    · rw [if_pos h58]
      have d:((c.toNat:Int)==(58:Int))=true:=by rw [h58];rfl
      have ht2:tCmp .Eq (eVar 0) (eCst G_COLON) (.val (.int (c.toNat:Int)):: .unset::m.fs)=some (true,.val (.int (c.toNat:Int)):: .unset::m.fs):=by
        simp only [Mc.fs,d,eCst,eVar,tCmp,cmpV,eqV,Option.bind_eq_bind,Option.bind_some,List.getElem?_cons_zero,G_COLON]
      refine ⟨true,?_⟩
      refine (congrArg (fun y:Option (Fl×St)=>y.bind _) (bCons_next ((sIf_false ht1).trans ((bCons_next ((sIf_true ht2).trans ((bCons_next (call1 _ _)).trans rfl))).trans rfl)))).trans ?_
      rfl
    · rw [if_neg h58]
      have d:((c.toNat:Int)==(58:Int))=false:=by simp;lia
      have ht2:tCmp .Eq (eVar 0) (eCst G_COLON) (.val (.int (c.toNat:Int)):: .unset::m.fs)=some (false,.val (.int (c.toNat:Int)):: .unset::m.fs):=by
        simp only [Mc.fs,d,eCst,eVar,tCmp,cmpV,eqV,Option.bind_eq_bind,Option.bind_some,List.getElem?_cons_zero,G_COLON]
      by_cases h59:c.toNat=59
      · rw [if_pos h59]
        have d:((c.toNat:Int)==(59:Int))=true:=by rw [h59];rfl
        have ht3:tCmp .Eq (eVar 0) (eCst G_SEMICOLON) (.val (.int (c.toNat:Int)):: .unset::m.fs)=some (true,.val (.int (c.toNat:Int)):: .unset::m.fs):=by
          simp only [Mc.fs,d,eCst,eVar,tCmp,cmpV,eqV,Option.bind_eq_bind,Option.bind_some,List.getElem?_cons_zero,G_SEMICOLON]
        refine ⟨true,?_⟩
        refine (congrArg (fun y:Option (Fl×St)=>y.bind _) (bCons_next ((sIf_false ht1).trans ((bCons_next ((sIf_false ht2).trans ((bCons_next ((sIf_true ht3).trans ((bCons_next (call1 _ _)).trans ((bCons_next (call2 _ _)).trans rfl)))).trans rfl))).trans rfl)))).trans ?_
        rfl
      · rw [if_neg h59]
        have d:((c.toNat:Int)==(59:Int))=false:=by simp;lia
        have ht3:tCmp .Eq (eVar 0) (eCst G_SEMICOLON) (.val (.int (c.toNat:Int)):: .unset::m.fs)=some (false,.val (.int (c.toNat:Int)):: .unset::m.fs):=by
          simp only [Mc.fs,d,eCst,eVar,tCmp,cmpV,eqV,Option.bind_eq_bind,Option.bind_some,List.getElem?_cons_zero,G_SEMICOLON]
        refine ⟨false,?_⟩
        refine (congrArg (fun y:Option (Fl×St)=>y.bind _) (bCons_ret ((sIf_false ht1).trans (bCons_ret ((sIf_false ht2).trans (bCons_ret ((sIf_false ht3).trans rfl))))))).trans ?_
        rfl
end Mine.P
end
section
open PySem
set_option linter.unusedVariables false
namespace Mine.P
noncomputable def mc0:Mc:=⟨[],[],none,false⟩
theorem step_ok (m:Mc) (hv:ValOk m.v) (c:UInt8):ValOk (m.step c).v:=by
  unfold Mc.step
  split
  · exact valStep_ok _ _
  · split
    · unfold ValOk;simp
    · split
      · unfold ValOk;simp
      · exact hv
theorem read_loop (a0 a1 a2:Slot):∀ (oct:List UInt8) (m:Mc) (s:Slot),ValOk m.v→
    ∃ s',forLoop [3] (bCons (sExpr (eCallO 4 F_put [(eVar 3)])) bNil) (oct.map fun c=> .int (c.toNat:Int)) (a0::a1::a2::s::m.fs)=some (.next,a0::a1::a2::s'::(oct.foldl Mc.step m).fs)
  | [],m,s,_=>⟨s,rfl⟩
  | c::oct,m,s,hv=>by
    refine x11 (read_loop a0 a1 a2 oct (m.step c) (.val (.int (c.toNat:Int))) (step_ok m hv c)) ?_;intro s' h
    refine x11 (put_of m hv c) ?_;intro r hp
    refine ⟨s',?_⟩
    simp only [List.map_cons,forLoop_c,bindT1,List.set_cons_zero,List.set_cons_succ,Option.bind_eq_bind,Option.bind_some,bCons,sExpr,eCallO,evs,eVar,List.getElem?_cons_zero,List.getElem?_cons_succ,List.drop_succ_cons,List.drop_zero,List.take_succ_cons,List.take_zero,List.cons_append,List.nil_append,hp,plainV,if_true,bNil,h,List.foldl_cons]
noncomputable def rowsOf (m:Mc):List Row:=m.done++[m.cur++[m.v]]
theorem params_of (m:Mc):∃ fs,F_params m.fs []=some (if m.b then rowsV (cap (rowsOf m)) else .lst [],fs):=by
  have e:F_params m.fs []=(F_params_body (.unset:: .unset::m.fs)).bind (fun x=>match x.1 with | .ret d=>some (d,x.2.drop 2) | .next=>some (.none,x.2.drop 2)):=rfl
  rw [e]
  cases hb:m.b with
  | false=>
    refine ⟨m.fs,?_⟩
    unfold F_params_body
    have h1:sIf (tNot (tVal (eVar 7))) (bCons (sRet (eL (lDisp []))) bNil) bNil (.unset:: .unset::m.fs)=some (.ret (.lst []),.unset:: .unset::m.fs):=by
      simp only [Mc.fs,hb,bCons,bNil,sIf,evs,eVar,tNot,tVal,sRet,eL,lDisp,truV,Option.bind_eq_bind,Option.bind_some,List.getElem?_cons_zero,List.getElem?_cons_succ,if_true,Bool.not_false]
    refine (congrArg (fun y:Option (Fl×St)=>y.bind _) (bCons_ret h1)).trans ?_
    rfl
  | true=>
    obtain ⟨dn,cr,v,b⟩:=m
    dsimp only at hb
    subst hb
    have hpl:((cr.take 32).map pv).length=(cr.take 32).length:=by simp
    have hpl2:(cr.take 32).length≤32:=by simp;lia
    have hcl:((cap dn).map rowV).length=(cap dn).length:=by simp
    have hcl2:(cap dn).length≤32:=by unfold cap;simp;lia
    have lp:(((cr.take 32).map pv).length≤lim)=True:=eq_true (by rw [hpl];exact lim_ge (by lia))
    have lp':(((cr.take 32).map pv).length<lim)=True:=eq_true (by rw [hpl];unfold lim;lia)
    have lc:(((cap dn).map rowV).length≤lim)=True:=eq_true (by rw [hcl];exact lim_ge (by lia))
    have lc':(((cap dn).map rowV).length<lim)=True:=eq_true (by rw [hcl];unfold lim;lia)
    let F:List Slot:=[.val (.int 32),.val (.int 65535),.own ((cap dn).map rowV),.val (.lst ((cr.take 32).map pv)),.val (pv v),.val (.bool true)]
    let F':List Slot:=[.val (.int 32),.val (.int 65535),.val (.lst ((cap dn).map rowV)),.val (.lst ((cr.take 32).map pv)),.val (pv v),.val (.bool true)]
    have h1:sIf (tNot (tVal (eVar 7))) (bCons (sRet (eL (lDisp []))) bNil) bNil (.unset:: .unset::Mc.fs ⟨dn,cr,v,true⟩)=some (.next,.unset:: .unset::Mc.fs ⟨dn,cr,v,true⟩):=by
      simp only [Mc.fs,bCons,bNil,sIf,evs,eVar,tNot,tVal,sRet,eL,lDisp,truV,Option.bind_eq_bind,Option.bind_some,List.getElem?_cons_zero,List.getElem?_cons_succ,Bool.false_eq_true,if_false,Bool.not_true]
    have h2:sAsgL 0 (lOf (eVar 5)) (.unset:: .unset::Mc.fs ⟨dn,cr,v,true⟩)=some (.next,.own ((cr.take 32).map pv):: .unset::F):=by
      simp only [Mc.fs,lOf,lp,F,sAsgL,eVar,Option.bind_eq_bind,Option.bind_some,List.getElem?_cons_zero,List.getElem?_cons_succ,List.set_cons_zero,List.set_cons_succ,if_true]
    have h3:sIf (tCmp .Lt (eLenS 0) (eVar 2)) (bCons (sApp 0 (eVar 6)) bNil) bNil (.own ((cr.take 32).map pv):: .unset::F)=some (.next,.own (((cr++[v]).take 32).map pv):: .unset::F):=by
      rw [← take_snoc]
      by_cases h:(cr.take 32).length<32
      · have d:decide ((((cr.take 32).map pv).length:Int)<32)=true:=by rw [hpl];exact decide_eq_true (by lia)
        rw [if_pos h,List.map_append]
        simp only [F,lp,lp',d,List.map_cons,List.map_nil,bCons,bNil,sIf,eVar,tCmp,cmpV,i2B,sApp,lenV,listS,eLenS,Option.bind_eq_bind,Option.bind_some,List.getElem?_cons_zero,List.getElem?_cons_succ,List.set_cons_zero,if_true]
      · have d:decide ((((cr.take 32).map pv).length:Int)<32)=false:=by rw [hpl];exact decide_eq_false (by lia)
        rw [if_neg h]
        simp only [F,lp,d,bCons,bNil,sIf,eVar,tCmp,cmpV,i2B,sApp,lenV,listS,eLenS,Option.bind_eq_bind,Option.bind_some,List.getElem?_cons_zero,List.getElem?_cons_succ,List.set_cons_zero,Bool.false_eq_true,if_false,if_true]
    have hid:∀ st,iSeq (eVar 4) (st:: .unset::F)=some ((cap dn).map rowV,st:: .unset::F'):=fun st=>by
      simp only [F,F',lc,iSeq,itemsV,eVar,Option.bind_eq_bind,Option.bind_some,List.getElem?_cons_zero,List.getElem?_cons_succ,List.set_cons_zero,List.set_cons_succ,if_true]
    have h4:sAsgL 1 (lCompA (iSeq (eVar 4)) [] (eL (lOf (eVar 0)))) (.own (((cr++[v]).take 32).map pv):: .unset::F)=some (.next,.own (((cr++[v]).take 32).map pv):: .own ((cap dn).map rowV)::F'):=by
      have hc:=comp_map (elt:=eL (lOf (eVar 0))) (g:=id) (hid (.own (((cr++[v]).take 32).map pv))) (by
        intro d hd
        refine x12 (List.mem_map.mp hd) ?_;intro r hr hq2;subst hq2
        have hrl:(r.map pv).length≤32:=by
          have:r∈dn.map (List.take 32):=List.mem_of_mem_take hr
          refine x12 (List.mem_map.mp this) ?_;intro q _ hq2;subst hq2
          simp;lia
        have hl:((r.map pv).length≤lim)=True:=eq_true (lim_ge (by lia))
        simp only [rowV,lOf,hl,id,eVar,eL,Option.bind_eq_bind,Option.bind_some,List.getElem?_cons_zero,if_true]) (by rw [lc];trivial)
      rw [List.map_id] at hc
      simp only [sAsgL,hc,Option.bind_eq_bind,Option.bind_some,List.set_cons_succ,List.set_cons_zero]
    have h5:sIf (tCmp .Lt (eLenS 1) (eVar 2)) (bCons (sApp 1 (eVar 0)) bNil) bNil (.own (((cr++[v]).take 32).map pv):: .own ((cap dn).map rowV)::F')=some (.next,(if (cap dn).length<32 then .val (rowV ((cr++[v]).take 32)) else .own (((cr++[v]).take 32).map pv)):: .own ((cap (dn++[cr++[v]])).map rowV)::F'):=by
      have hcap:cap (dn++[cr++[v]])=if (cap dn).length<32 then cap dn++[(cr++[v]).take 32] else cap dn:=by
        unfold cap
        rw [take_snoc,List.map_append];rfl
      rw [hcap]
      by_cases h:(cap dn).length<32
      · have d:decide ((((cap dn).map rowV).length:Int)<32)=true:=by rw [hcl];exact decide_eq_true (by lia)
        rw [if_pos h,if_pos h,List.map_append]
        simp only [F',lc,lc',d,List.map_cons,List.map_nil,bCons,bNil,sIf,eVar,tCmp,cmpV,i2B,sApp,lenV,listS,eLenS,Option.bind_eq_bind,Option.bind_some,List.getElem?_cons_zero,List.getElem?_cons_succ,List.set_cons_zero,List.set_cons_succ,if_true]
        rfl
      · have d:decide ((((cap dn).map rowV).length:Int)<32)=false:=by rw [hcl];exact decide_eq_false (by lia)
        rw [if_neg h,if_neg h]
        simp only [F',lc,d,bCons,bNil,sIf,eVar,tCmp,cmpV,i2B,sApp,lenV,listS,eLenS,Option.bind_eq_bind,Option.bind_some,List.getElem?_cons_zero,List.getElem?_cons_succ,List.set_cons_zero,List.set_cons_succ,Bool.false_eq_true,if_false,if_true]
    refine ⟨F',?_⟩
    unfold F_params_body
    refine (congrArg (fun y:Option (Fl×St)=>y.bind _) ((bCons_next h1).trans ((bCons_next h2).trans ((bCons_next h3).trans ((bCons_next h4).trans (bCons_next h5)))))).trans ?_
    rfl
theorem read_of {oct:List UInt8} (hl:oct.length≤lim):F_read_params [.bytes oct]=some (if (oct.foldl Mc.step mc0).b then rowsV (cap (rowsOf (oct.foldl Mc.step mc0))) else .lst []):=by
  have e:F_read_params [.bytes oct]=(F_read_params_body [.val (.bytes oct),.val (.int 32),.val (.int 65535),.unset,.unset]).bind (fun x=>match x.1 with | .ret d=>some d | .next=>some .none):=rfl
  have hn:∀ r:SF,bNew 6 F_init [(eVar 1),(eVar 2)] r [.val (.bytes oct),.val (.int 32),.val (.int 65535),.unset,.unset]=r (.val (.bytes oct):: .val (.int 32):: .val (.int 65535):: .unset::mc0.fs):=fun r=>by kernel_rfl
  refine x11 (read_loop (.val (.bytes oct)) (.val (.int 32)) (.val (.int 65535)) oct mc0 .unset (by unfold ValOk mc0;simp)) ?_;intro s' h
  have h2:sFor [3] (iSeq (eVar 0)) (bCons (sExpr (eCallO 4 F_put [(eVar 3)])) bNil) (.val (.bytes oct):: .val (.int 32):: .val (.int 65535):: .unset::mc0.fs)=some (.next,.val (.bytes oct):: .val (.int 32):: .val (.int 65535)::s'::(oct.foldl Mc.step mc0).fs):=by
    simp only [sFor,iSeq,eVar,List.getElem?_cons_zero,items_bytes hl,Option.bind_eq_bind,Option.bind_some]
    exact h
  refine x11 (params_of (oct.foldl Mc.step mc0)) ?_;intro fs h3
  rw [e]
  unfold F_read_params_body
  rw [hn]
  refine (congrArg (fun y:Option (Fl×St)=>y.bind _) (bCons_next h2)).trans ?_
  simp only [bCons,sRet,eCallO,evs,List.drop_succ_cons,List.drop_zero,h3,Option.bind_eq_bind,Option.bind_some]
noncomputable def restRows (m:Mc) (r:List UInt8):List Row:=match splitB 59 r with
  | []=>[]
  | s::ss=>(match splitB 58 s with
    | []=>[]
    | p::ps=>m.done++[m.cur++(p.foldl valStep m.v)::ps.map valOf]++ss.map partRow)
theorem fold_rows:∀ (r:List UInt8) (m:Mc),(∀ x∈r,48≤x.toNat∧x.toNat≤59)→rowsOf (r.foldl Mc.step m)=restRows m r
  | [],m,_=>by simp [rowsOf,restRows,splitB]
  | c::r,m,h=>by
    have ih:=fold_rows r (m.step c) fun x hx=>h x (.tail _ hx)
    have hc:=h c (.head _)
    rw [List.foldl_cons,ih]
    unfold restRows
    rw [split_cons]
    cases hs:splitB 59 r with
    | nil=>exact absurd hs (split_ne _ _)
    | cons s ss=>
      dsimp only
      cases hp:splitB 58 s with
      | nil=>exact absurd hp (split_ne _ _)
      | cons p ps=>
        dsimp only
        by_cases h59:c.toNat=59
        · have e:(c==(59:UInt8))=true:=beq_iff_eq.mpr (UInt8.toNat_inj.mp h59)
          rw [if_pos e]
          have es:m.step c=⟨m.done++[m.cur++[m.v]],[],none,true⟩:=by
            unfold Mc.step;rw [if_neg (by lia),if_neg (by lia),if_pos h59]
          rw [es]
          simp [splitB,partRow,hp,valOf]
        · have e: ¬ (c==(59:UInt8))=true:=fun q=>h59 (by rw [beq_iff_eq.mp q];rfl)
          rw [if_neg e]
          dsimp only
          rw [split_cons,hp]
          by_cases h58:c.toNat=58
          · have e:(c==(58:UInt8))=true:=beq_iff_eq.mpr (UInt8.toNat_inj.mp h58)
            rw [if_pos e]
            have es:m.step c=⟨m.done,m.cur++[m.v],none,true⟩:=by
              unfold Mc.step;rw [if_neg (by lia),if_pos h58]
            rw [es]
            simp [valOf]
          · have e: ¬ (c==(58:UInt8))=true:=fun q=>h58 (by rw [beq_iff_eq.mp q];rfl)
            rw [if_neg e]
            have es:m.step c={ m with v:=valStep m.v c,b:=true}:=by
              unfold Mc.step;rw [if_pos (by lia)]
            rw [es]
            simp
theorem fold_keep:∀ (oct:List UInt8) (m:Mc),oct.foldl Mc.step m=(keep oct).foldl Mc.step m
  | [],_=>rfl
  | c::oct,m=>by
    rw [List.foldl_cons]
    unfold keep
    rw [List.filter_cons]
    split
    · exact fold_keep oct _
    · rename_i hk
      have es:m.step c=m:=by
        have hk': ¬ (48≤c.toNat∧c.toNat≤59):=fun q=>hk (by simp [isKept,q.1,q.2])
        unfold Mc.step
        rw [if_neg (by lia),if_neg (by lia),if_neg (by lia)]
      rw [es]
      exact fold_keep oct m
theorem fold_b:∀ (l:List UInt8) (m:Mc),m.b=true→(l.foldl Mc.step m).b=true
  | [],_,h=>h
  | c::l,m,h=>by
    rw [List.foldl_cons]
    refine fold_b l _ ?_
    unfold Mc.step
    split
    · rfl
    · split
      · rfl
      · split
        · rfl
        · exact h
theorem fold_begun {l:List UInt8} (h:∀ x∈l,48≤x.toNat∧x.toNat≤59):(l.foldl Mc.step mc0).b= !l.isEmpty:=by
  induction l using List.casesOn with
  | nil=>rfl
  | cons c l=>
    have hc:=h c (.head _)
    rw [List.foldl_cons]
    refine fold_b l _ ?_
    unfold Mc.step
    split
    · rfl
    · split
      · rfl
      · split
        · rfl
        · lia
theorem rest0 (oct:List UInt8):restRows mc0 (keep oct)=allRows oct:=by
  unfold restRows allRows
  cases hs:splitB 59 (keep oct) with
  | nil=>exact absurd hs (split_ne _ _)
  | cons s ss=>
    dsimp only
    cases hp:splitB 58 s with
    | nil=>exact absurd hp (split_ne _ _)
    | cons p ps=>simp [mc0,partRow,hp,valOf]
noncomputable def readRows (oct:List UInt8):List Row:=if keep oct=[] then [] else lawRows oct
theorem read_params_of {oct:List UInt8} (hl:oct.length≤lim) (hs:∀ r∈allRows oct,r.length≤32):F_read_params [.bytes oct]=some (rowsV (readRows oct)):=by
  rw [read_of hl,fold_keep,fold_begun fun x hx=>keep_mem hx,fold_rows _ _ (fun x hx=>keep_mem hx),rest0]
  unfold readRows
  cases hk:keep oct with
  | nil=>rfl
  | cons c l=>
    have:cap (allRows oct)=lawRows oct:=by
      unfold cap lawRows
      congr 1
      conv=>rhs;rw [← List.map_id (allRows oct)]
      apply List.map_congr_left
      intro r hr
      exact List.take_of_length_le (hs r hr)
    rw [this]
    rfl
theorem rows0_read (oct:List UInt8):rows0 (readRows oct)=lawRows oct:=by
  unfold readRows
  split
  · rename_i h
    unfold lawRows allRows
    rw [h]
    rfl
  · have:lawRows oct≠[]:=by
      unfold lawRows allRows
      cases hs:splitB 59 (keep oct) with
      | nil=>exact absurd hs (split_ne _ _)
      | cons s ss=>simp
    unfold rows0
    rw [if_neg this]
end Mine.P
end
section
open PySem
set_option linter.unusedVariables false
namespace Mine.P
theorem run_fuel:∀ (n k:Nat) (L:List Row) (p:Pen),L.length≤n→L.length≤k→run k L p=run L.length L p:=by
  intro n
  induction n with
  | zero=>
    intro k L p h1 h2
    have:L=[]:=List.length_eq_zero_iff.mp (by lia)
    subst this
    rw [run_nil,run_nil]
  | succ n ih=>
    intro k L p h1 h2
    match L,h1,h2 with
    | [],_,_=>rw [run_nil,run_nil]
    | r::rest,h1,h2=>
      simp only [List.length_cons] at h1 h2
      obtain ⟨k',rfl⟩:∃ k',k=k'+1:=⟨k - 1,by lia⟩
      rw [List.length_cons]
      have a:∀ q,run k' rest q=run rest.length rest q:=fun q=>ih k' rest q (by lia) (by lia)
      unfold run
      split
      · split
        · split
          · rfl
          · rename_i h t
            simp only [List.length_cons] at h1 h2 ⊢
            have hl:∀ m,(t.drop m).length≤t.length:=fun m=>by simp
            rw [ih k' (t.drop _) _ (Nat.le_trans (hl _) (by lia)) (Nat.le_trans (hl _) (by lia)),ih (t.length+1) (t.drop _) _ (Nat.le_trans (hl _) (by lia)) (Nat.le_trans (hl _) (by lia))]
        · exact a _
      · exact a _
noncomputable def runF (L:List Row) (p:Pen):Pen:=run L.length L p
theorem run_is {k:Nat} {L:List Row} {p:Pen} (h:L.length≤k):run k L p=runF L p:=run_fuel _ k L p (Nat.le_refl _) h
noncomputable abbrev isLook (n:Nat):Prop:=n=38∨n=48∨n=58
theorem runF_plain {x:Option Nat} (h: ¬ isLook (x.getD 0)) (rest:List Row) (p:Pen):runF ([x]::rest) p=runF rest (plain (x.getD 0) p):=by
  show run (rest.length+1) ([x]::rest) p=_
  simp only [run]
  rw [if_neg h];rfl
theorem runF_look {x:Option Nat} (h:isLook (x.getD 0)) (r:Row) (t:List Row) (p:Pen):runF ([x]::r::t) p=runF (t.drop (manyOf (r.headD none))) (setHue (x.getD 0) (hueOf (r.headD none) (heads (t.take (manyOf (r.headD none))))) p):=by
  show run (t.length+1+1) ([x]::r::t) p=_
  simp only [run]
  rw [if_pos h]
  exact run_is (by simp;lia)
theorem runF_multi {r:Row} (h:r∈multis) (rest:List Row) (p:Pen):runF (r::rest) p=runF rest (subAct r p):=by
  show run (rest.length+1) (r::rest) p=_
  have hm':=h
  simp only [multis,List.mem_cons,List.not_mem_nil,or_false] at hm'
  rcases hm' with rfl | rfl | rfl | rfl | rfl | rfl | rfl | rfl | rfl | rfl | rfl | rfl | rfl | rfl <;> rfl
theorem wf_runF {L:List Row} {p:Pen} (w:WF p) (hg:∀ r∈L,GoodRow r):WF (runF L p):=wf_run _ L p w hg
noncomputable def isLookB (n:Nat):Bool:=n==38 || n==48 || n==58
theorem isLook_iff {n:Nat}:isLookB n=true↔isLook n:=by simp [isLookB,isLook,or_assoc]
noncomputable def closedB:Nat→List Row→Bool
  | _,[]=>true
  | 0,_=>false
  | k+1,r::rest=>match r with
    | [x]=>if isLookB (x.getD 0) then (match rest with
        | []=>false
        | h::t=>decide (manyOf (h.headD none)≤t.length) && closedB k (t.drop (manyOf (h.headD none)))) else closedB k rest
    | r=>multis.contains r && closedB k rest
theorem closed_run:∀ (k:Nat) (R:List Row),closedB k R=true→∀ (rest:List Row) (p:Pen),runF (R++rest) p=runF rest (runF R p)
  | _,[],_,rest,p=>rfl
  | 0,r::R,h,_,_=>by simp [closedB] at h
  | k+1,r::R,h,rest,p=>by
    unfold closedB at h
    split at h
    · rename_i x
      split at h
      · rename_i hl
        have hl':=isLook_iff.mp hl
        split at h
        · exact ftE h
        · rename_i r' t
          refine x02 (Bool.and_eq_true_iff.mp h) ?_;intro h1 h2
          have h1:=of_decide_eq_true h1
          rw [List.cons_append,List.cons_append,runF_look hl',runF_look hl',List.drop_append_of_le_length h1,List.take_append_of_le_length h1]
          exact closed_run k _ h2 rest _
      · rename_i hl
        have hl': ¬ isLook (x.getD 0):=fun q=>hl (isLook_iff.mpr q)
        rw [List.cons_append,runF_plain hl',runF_plain hl']
        exact closed_run k _ h rest _
    · refine x02 (Bool.and_eq_true_iff.mp h) ?_;intro h1 h2
      have hm:r∈multis:=by simpa using h1
      rw [List.cons_append,runF_multi hm,runF_multi hm]
      exact closed_run k _ h2 rest _
noncomputable def Closed (R:List Row):Prop:=∀ (rest:List Row) (p:Pen),runF (R++rest) p=runF rest (runF R p)
theorem Closed.append {R S:List Row} (a:Closed R) (b:Closed S):Closed (R++S):=fun rest p=>by
  rw [List.append_assoc,a,b,a]
theorem Closed.nil:Closed []:=fun _ _=>rfl
theorem split_app (c:UInt8):∀ (a b:List UInt8),splitB c (a++c::b)=splitB c a++splitB c b
  | [],b=>by rw [List.nil_append,split_cons,if_pos (beq_self_eq_true c)];rfl
  | x::a,b=>by
    rw [List.cons_append,split_cons,split_cons,split_app c a b]
    split
    · rfl
    · cases h:splitB c a with
      | nil=>exact absurd h (split_ne c a)
      | cons p ps=>rfl
theorem split_none (c:UInt8):∀ (a:List UInt8),(∀ x∈a,x≠c)→splitB c a=[a]
  | [],_=>rfl
  | x::a,h=>by
    rw [split_cons,if_neg (fun q=>h x (.head _) (beq_iff_eq.mp q)),split_none c a fun y hy=>h y (.tail _ hy)]
theorem split_count (c:UInt8):∀ l:List UInt8,(splitB c l).length=(l.filter (· ==c)).length+1
  | []=>rfl
  | x::r=>by
    have ih:=split_count c r
    rw [split_cons,List.filter_cons]
    split
    · simp [ih]
    · cases h:splitB c r with
      | nil=>exact absurd h (split_ne c r)
      | cons p ps=>rw [h] at ih;simpa using ih
theorem join_cons2 (s b:List UInt8) (b':List UInt8) (r:List (List UInt8)):joinB s (b::b'::r)=b++s++joinB s (b'::r):=rfl
theorem split_join (c:UInt8):∀ (ps:List (List UInt8)),ps≠[]→splitB c (joinB [c] ps)=ps.flatMap (splitB c)
  | [],h=>absurd rfl h
  | [b],_=>by simp [joinB]
  | b::b'::r,_=>by
    rw [join_cons2,List.append_assoc,List.singleton_append,split_app,split_join c (b'::r) (by simp)]
    rfl
theorem join_app (c:UInt8):∀ (a b:List (List UInt8)),a≠[]→b≠[]→joinB [c] (a++b)=joinB [c] a++c::joinB [c] b
  | [],_,h,_=>absurd rfl h
  | [x],[],_,h=>absurd rfl h
  | [x],y::b,_,_=>by rw [List.singleton_append,join_cons2];simp [joinB]
  | x::x'::a,b,_,hb=>by
    have:=join_app c (x'::a) b (by simp) hb
    rw [List.cons_append,List.cons_append,join_cons2,← List.cons_append,this,join_cons2]
    simp
theorem mem_join {c x:UInt8}:∀ {ps:List (List UInt8)},x∈joinB [c] ps→x=c∨∃ p∈ps,x∈p
  | [],h=>by simp [joinB] at h
  | [b],h=> .inr ⟨b,.head _,h⟩
  | b::b'::r,h=>by
    rw [join_cons2,List.mem_append,List.mem_append] at h
    rcases h with (h | h) | h
    · exact .inr ⟨b,.head _,h⟩
    · exact .inl (by simpa using h)
    · rcases mem_join h with h | ⟨p,hp,hx⟩
      · exact .inl h
      · exact .inr ⟨p,.tail _ hp,hx⟩
theorem join_len {c:UInt8} {n:Nat}:∀ {ps:List (List UInt8)},(∀ p∈ps,p.length≤n)→(joinB [c] ps).length≤ps.length*(n+1)
  | [],_=>by simp [joinB]
  | [b],h=>by have:=h b (.head _);simp [joinB];lia
  | b::b'::r,h=>by
    have h1:=h b (.head _)
    have h2:=join_len (c:=c) (ps:=b'::r) fun p hp=>h p (.tail _ hp)
    rw [join_cons2]
    simp only [List.length_append,List.length_cons,List.length_nil] at h2 ⊢
    have e:(r.length+1+1)*(n+1)=(r.length+1)*(n+1)+(n+1):=Nat.succ_mul _ _
    lia
theorem keep_app (a b:List UInt8):keep (a++b)=keep a++keep b:=List.filter_append ..
theorem keep_id {a:List UInt8} (h:∀ x∈a,isKept x=true):keep a=a:=List.filter_eq_self.mpr h
theorem rows_app (a b:List UInt8):allRows (a++59::b)=allRows a++allRows b:=by
  have:keep (a++59::b)=keep a++59::keep b:=by
    rw [keep_app];congr 1
  unfold allRows
  rw [this,split_app,List.map_append]
theorem rows_join:∀ (ps:List (List UInt8)),ps≠[]→allRows (joinB [59] ps)=ps.flatMap allRows
  | [],h=>absurd rfl h
  | [b],_=>by simp [joinB]
  | b::b'::r,_=>by
    rw [join_cons2,List.append_assoc,List.singleton_append,rows_app,rows_join (b'::r) (by simp)]
    rfl
noncomputable def bytesOf1:V→List UInt8
  | .bytes b=>b
  | _=>[]
noncomputable def pieces:List (List UInt8):=(match G_law_pieces with | .tup l=>l | _=>[]).map bytesOf1
noncomputable def tails:List (List UInt8):=[[],[59,51,56],[59,52,56,59,53],[59,53,56,59,50,59,49]]
noncomputable def signs:List (List UInt8):=[[],[],[32],[60],[120],[27]]
noncomputable def goodB (r:Row):Bool:=match r with
  | [_]=>true
  | r=>multis.contains r
theorem goodB_of {r:Row} (h:goodB r=true):GoodRow r:=by
  unfold goodB at h
  split at h
  · exact .inl ⟨_,rfl⟩
  · exact .inr (by simpa using h)
noncomputable def pieceChk (b:List UInt8):Bool:=closedB 10 (allRows b) && (allRows b).all goodB && b.all isKept && decide (b.length≤30)
theorem piece_all:pieces.all pieceChk=true:=by kernel_rfl
noncomputable def tailChk (b:List UInt8):Bool:=match b with
  | []=>true
  | c::t=>c==59 && (allRows t).all goodB && t.all isKept && decide (t.length≤30)
theorem tail_all:tails.all tailChk=true:=by kernel_rfl
theorem sign_all:signs.all (fun b=>(keep b).isEmpty && decide (b.length≤1))=true:=by kernel_rfl
structure Piece (b:List UInt8):Prop where
  closed:Closed (allRows b)
  good:∀ r∈allRows b,GoodRow r
  kept:∀ x∈b,isKept x=true
  len:b.length≤30
theorem piece_of {b:List UInt8} (h:b∈pieces):Piece b:=by
  have h1:=List.all_eq_true.mp piece_all b h
  unfold pieceChk at h1
  refine x02 (Bool.and_eq_true_iff.mp h1) ?_;intro h1 h5
  refine x02 (Bool.and_eq_true_iff.mp h1) ?_;intro h1 h4
  refine x02 (Bool.and_eq_true_iff.mp h1) ?_;intro h2 h3
  exact ⟨closed_run 10 _ h2,fun r hr=>goodB_of (List.all_eq_true.mp h3 r hr),fun x hx=>List.all_eq_true.mp h4 x hx,of_decide_eq_true h5⟩
structure Pieces (ps:List (List UInt8)):Prop where
  all:∀ b∈ps,Piece b
theorem Pieces.closed {ps:List (List UInt8)} (h:Pieces ps):Closed (ps.flatMap allRows):=by
  obtain ⟨h⟩:=h
  induction ps with
  | nil=>exact Closed.nil
  | cons b r ih=>exact (h b (.head _)).closed.append (ih fun x hx=>h x (.tail _ hx))
theorem Pieces.good {ps:List (List UInt8)} (h:Pieces ps):∀ r∈ps.flatMap allRows,GoodRow r:=fun r hr=>by
  refine x12 (List.mem_flatMap.mp hr) ?_;intro b hb hr
  exact (h.all b hb).good r hr
theorem Pieces.kept {ps:List (List UInt8)} (h:Pieces ps):∀ x∈joinB [59] ps,isKept x=true:=fun x hx=>by
  rcases mem_join hx with rfl | ⟨p,hp,hx⟩
  · rfl
  · exact (h.all p hp).kept x hx
theorem Pieces.len {ps:List (List UInt8)} (h:Pieces ps):(joinB [59] ps).length≤ps.length*31:=join_len fun p hp=>(h.all p hp).len
end Mine.P
end
section
open PySem
set_option linter.unusedVariables false
namespace Mine.P
noncomputable def digs:Nat→Nat→List Nat
  | 0,_=>[]
  | k+1,n=>if n=0 then [] else n % 10::digs k (n / 10)
noncomputable def dch (d:Nat):UInt8:=(48+d).toUInt8
noncomputable def decB (n:Nat):List UInt8:=((n % 10::digs 5 (n / 10)).map dch).reverse
theorem digs_lt:∀ (k n:Nat),∀ d∈digs k n,d<10
  | 0,_,_,h=>by simp [digs] at h
  | k+1,n,d,h=>by
    unfold digs at h
    split at h
    · cases h
    · rcases List.mem_cons.mp h with rfl | h
      · exact Nat.mod_lt _ (by decide)
      · exact digs_lt k _ d h
theorem digs_len:∀ (k n:Nat),(digs k n).length≤k
  | 0,_=>by simp [digs]
  | k+1,n=>by
    unfold digs
    split
    · simp
    · have:=digs_len k (n / 10);simp;lia
theorem dch_nat {d:Nat} (h:d<10):(dch d).toNat=48+d:=by
  unfold dch
  rw [Nat.toUInt8_eq,UInt8.toNat_ofNat']
  lia
theorem mod_int (n:Nat):(n:Int).fmod 10=((n % 10:Nat):Int):=by
  rw [Int.fmod_eq_emod_of_nonneg _ (by decide)];lia
theorem div_int (n:Nat):(n:Int).fdiv 10=((n / 10:Nat):Int):=by
  rw [Int.fdiv_eq_ediv_of_nonneg _ (by decide)];lia
theorem dec_loop (a:Slot):∀ (k fuel n:Nat) (acc:List V),n<10 ^ k→k<fuel→acc.length+k<1000→
    whileLoop W_decimal_octets_t W_decimal_octets_b fuel [a,.val (.int (n:Int)),.own acc]=some (.next,[a,.val (.int 0),.own (acc++(digs k n).map (fun d=> .int ((48+d:Nat):Int)))]):=by
  intro k
  induction k with
  | zero=>
    intro fuel n acc h1 h2 h3
    obtain ⟨f,rfl⟩:∃ f,fuel=f+1:=⟨fuel - 1,by lia⟩
    have:n=0:=by simpa using h1
    subst this
    rw [whileLoop_stop (show W_decimal_octets_t [a,.val (.int ((0:Nat):Int)),.own acc]=some (false,[a,.val (.int 0),.own acc]) from rfl)]
    simp [digs]
  | succ k ih=>
    intro fuel n acc h1 h2 h3
    obtain ⟨f,rfl⟩:∃ f,fuel=f+1:=⟨fuel - 1,by lia⟩
    by_cases hn:n=0
    · subst hn
      rw [whileLoop_stop (show W_decimal_octets_t [a,.val (.int ((0:Nat):Int)),.own acc]=some (false,[a,.val (.int 0),.own acc]) from rfl)]
      simp [digs]
    · have ht:W_decimal_octets_t [a,.val (.int (n:Int)),.own acc]=some (true,[a,.val (.int (n:Int)),.own acc]):=by
        have d:decide ((n:Int)>0)=true:=decide_eq_true (by lia)
        simp only [W_decimal_octets_t,d,eCst,eVar,tCmp,cmpV,i2B,Option.bind_eq_bind,Option.bind_some,List.getElem?_cons_zero,List.getElem?_cons_succ]
      have hb:W_decimal_octets_b [a,.val (.int (n:Int)),.own acc]=some (.next,[a,.val (.int ((n / 10:Nat):Int)),.own (acc++[.int ((48+n % 10:Nat):Int)])]):=by
        have hl:(acc.length<lim)=True:=eq_true (by unfold lim;lia)
        have h10:((10:Int)≠0)=True:=eq_true (by decide)
        have h10':((10:Int).natAbs<1000000000)=True:=eq_true (by decide)
        have e:(48+((n % 10:Nat):Int))=((48+n % 10:Nat):Int):=by lia
        simp only [W_decimal_octets_b,W_decimal_octets_1,W_decimal_octets_2,mod_int,div_int,hl,h10,h10',e,bCons,bNil,sAsg,eCst,eVar,eBin,binV,addV,i2V,sApp,listS,Option.bind_eq_bind,Option.bind_some,List.getElem?_cons_zero,List.getElem?_cons_succ,List.set_cons_zero,List.set_cons_succ,if_true,and_self]
      rw [whileLoop_step ht hb,ih f (n / 10) _ (by rw [Nat.pow_succ] at h1;lia) (by lia) (by simp;lia)]
      rw [digs,if_neg hn,List.map_cons,List.append_assoc]
      rfl
theorem intsOf_map (l:List Nat):intsOf (l.map fun (d:Nat)=>V.int (d:Int))=some (l.map fun (d:Nat)=>(d:Int)):=by
  induction l with
  | nil=>rfl
  | cons a r ih=>simp only [List.map_cons,intsOf,ih,Option.map_some]
theorem decimal_of {n:Nat} (h:n<1000000):F_decimal_octets [.int (n:Int)]=some (.bytes (decB n)):=by
  have e:F_decimal_octets [.int (n:Int)]=(F_decimal_octets_body [.val (.int (n:Int)),.unset,.unset]).bind (fun x=>match x.1 with | .ret d=>some d | .next=>some .none):=rfl
  have hl:=dec_loop (.val (.int (n:Int))) 5 2000 (n / 10) [.int ((48+n % 10:Nat):Int)] (by have:(10:Nat) ^ 5=100000:=rfl;lia) (by decide) (by simp)
  have h10:((10:Int)≠0)=True:=eq_true (by decide)
  have h10':((10:Int).natAbs<1000000000)=True:=eq_true (by decide)
  have e48:(48+((n % 10:Nat):Int))=((48+n % 10:Nat):Int):=by lia
  have d0:decide ((n:Int)≥0)=true:=decide_eq_true (by lia)
  have d1:decide ((n:Int)<0)=false:=decide_eq_false (by lia)
  have hh:∀ lp:SF,W_decimal_octets_h lp [.val (.int (n:Int)),.unset,.unset]=bCons lp (bCons (sIf (tCmp .Lt (eVar 0) (eCst (.int 0))) (bCons (sApp 2 (eCst (.int 45))) bNil) bNil) (bCons (sRet (eF1 bytesV (eL (lRev (eVar 2))))) bNil)) [.val (.int (n:Int)),.val (.int ((n / 10:Nat):Int)),.own [.int ((48+n % 10:Nat):Int)]]:=fun lp=>by
    have s1:∀ r:SF,bCons (sAsg 1 (eIf (tCmp .GtE (eVar 0) (eCst (.int 0))) (eVar 0) (eUn .USub (eVar 0)))) r [.val (.int (n:Int)),.unset,.unset]=r [.val (.int (n:Int)),.val (.int (n:Int)),.unset]:=fun r=>by
      refine bCons_next ?_
      simp only [d0,sAsg,eCst,eVar,tCmp,eIf,cmpV,i2B,unV,eUn,truV,Option.bind_eq_bind,Option.bind_some,List.getElem?_cons_zero,List.set_cons_zero,List.set_cons_succ,if_true]
    have s2:∀ r:SF,bCons (sAsgL 2 (lDisp [(eBin .Add (eCst (.int 48)) (eBin .Mod (eVar 1) (eCst (.int 10))))])) r [.val (.int (n:Int)),.val (.int (n:Int)),.unset]=r [.val (.int (n:Int)),.val (.int (n:Int)),.own [.int ((48+n % 10:Nat):Int)]]:=fun r=>by
      refine bCons_next ?_
      simp only [mod_int,h10,e48,sAsgL,evs,eCst,eVar,eBin,binV,addV,i2V,lDisp,Option.bind_eq_bind,Option.bind_some,List.getElem?_cons_zero,List.getElem?_cons_succ,List.set_cons_zero,List.set_cons_succ,if_true]
    have s3:∀ r:SF,bCons (sAsg 1 (eBin .FloorDiv (eVar 1) (eCst (.int 10)))) r [.val (.int (n:Int)),.val (.int (n:Int)),.own [.int ((48+n % 10:Nat):Int)]]=r [.val (.int (n:Int)),.val (.int ((n / 10:Nat):Int)),.own [.int ((48+n % 10:Nat):Int)]]:=fun r=>by
      refine bCons_next ?_
      simp only [div_int,h10,h10',sAsg,eCst,eVar,eBin,binV,i2V,Option.bind_eq_bind,Option.bind_some,List.getElem?_cons_zero,List.getElem?_cons_succ,List.set_cons_zero,List.set_cons_succ,if_true,and_self]
    unfold W_decimal_octets_h
    rw [s1,s2,s3]
  have hmap:([.int ((48+n % 10:Nat):Int)]++(digs 5 (n / 10)).map (fun d=>V.int ((48+d:Nat):Int)))=((n % 10::digs 5 (n / 10)).map fun d=>48+d).map (fun (d:Nat)=>V.int (d:Int)):=by
    rw [List.map_map];rfl
  rw [hmap] at hl
  have hlen:((n % 10::digs 5 (n / 10)).map fun d=>48+d).length≤6:=by have:=digs_len 5 (n / 10);simp;lia
  have hlt:∀ d∈(n % 10::digs 5 (n / 10)),d<10:=fun d hd=>by
    rcases List.mem_cons.mp hd with rfl | hd
    · exact Nat.mod_lt _ (by decide)
    · exact digs_lt _ _ d hd
  have hB:bytesV (.lst ((((n % 10::digs 5 (n / 10)).map fun d=>48+d).map (fun (d:Nat)=>V.int (d:Int))).reverse))=some (.bytes (decB n)):=by
    rw [← List.map_reverse]
    dsimp only [bytesV]
    rw [if_pos (lim_ge (by rw [List.length_map,List.length_reverse];lia)),intsOf_map]
    dsimp only
    rw [if_pos]
    · unfold decB
      congr 2
      simp only [List.map_reverse,List.map_map]
      rfl
    · rw [List.all_eq_true]
      intro x hx
      refine x12 (List.mem_map.mp hx) ?_;intro d hd hq2;subst hq2
      refine x12 (List.mem_map.mp (List.mem_reverse.mp hd)) ?_;intro d' hd' hq2;subst hq2
      have:=hlt d' hd'
      simp
      lia
  generalize hacc:(((n % 10::digs 5 (n / 10)).map fun d=>48+d).map (fun (d:Nat)=>V.int (d:Int)))=acc at hl hB
  have hal:(acc.length≤lim)=True:=eq_true (lim_ge (by rw [← hacc,List.length_map];lia))
  rw [e,W_decimal_octets_eq,hh]
  refine (congrArg (fun y:Option (Fl×St)=>y.bind _) (bCons_next (f:=sWhile 2000 _ _) hl)).trans ?_
  simp only [d1,lRev,hal,hB,bCons,bNil,sIf,eCst,eVar,tCmp,cmpV,i2B,sRet,eF1,eL,sApp,listS,Option.bind_eq_bind,Option.bind_some,List.getElem?_cons_zero,List.getElem?_cons_succ,List.set_cons_zero,List.set_cons_succ,Bool.false_eq_true,if_false,if_true]
theorem dig_val:∀ (k n:Nat),n<10 ^ k→n≤65535→(((digs k n).map dch).reverse.foldl valStep none).getD 0=n:=by
  intro k
  induction k with
  | zero=>
    intro n h _
    have:n=0:=by simpa using h
    subst this;rfl
  | succ k ih=>
    intro n h hn
    unfold digs
    split
    · rename_i h0;subst h0;rfl
    · have:=ih (n / 10) (by rw [Nat.pow_succ] at h;lia) (by lia)
      rw [List.map_cons,List.reverse_cons,List.foldl_append]
      simp only [List.foldl_cons,List.foldl_nil,valStep,Option.getD_some]
      rw [this,dch_nat (Nat.mod_lt _ (by decide))]
      lia
theorem val_dec {n:Nat} (h:n≤65535):valOf (decB n)=some n:=by
  unfold valOf decB
  have:=dig_val 5 (n / 10) (by have:(10:Nat) ^ 5=100000:=rfl;lia) (by lia)
  rw [List.map_cons,List.reverse_cons,List.foldl_append]
  simp only [List.foldl_cons,List.foldl_nil,valStep]
  rw [this,dch_nat (Nat.mod_lt _ (by decide))]
  congr 1
  lia
theorem dec_mem {n:Nat}:∀ x∈decB n,48≤x.toNat∧x.toNat≤57:=by
  intro x hx
  unfold decB at hx
  refine x12 (List.mem_map.mp (List.mem_reverse.mp hx)) ?_;intro d hd hq2;subst hq2
  have:d<10:=by
    rcases List.mem_cons.mp hd with rfl | hd
    · exact Nat.mod_lt _ (by decide)
    · exact digs_lt _ _ d hd
  rw [dch_nat this]
  lia
theorem dec_len (n:Nat):(decB n).length≤6:=by
  unfold decB
  have:=digs_len 5 (n / 10)
  simp;lia
noncomputable def prV:Option Nat→List UInt8
  | none=>[]
  | some n=>decB n
noncomputable def prRow (r:Row):List UInt8:=joinB [58] (r.map prV)
noncomputable def prt (L:List Row):List UInt8:=joinB [59] (L.map prRow)
theorem val_pr {v:Option Nat} (h:ValOk v):valOf (prV v)=v:=by
  induction v using Option.casesOn with
  | none=>rfl
  | some n=>exact val_dec h
theorem pr_mem (v:Option Nat):∀ x∈prV v,48≤x.toNat∧x.toNat≤57:=by
  induction v using Option.casesOn with
  | none=>intro x hx;cases hx
  | some n=>exact dec_mem
theorem pr_len (v:Option Nat):(prV v).length≤6:=by
  induction v using Option.casesOn with
  | none=>simp [prV]
  | some n=>exact dec_len n
theorem part_of {v:Option Nat} (h:ValOk v):F_part_octets [pv v]=some (.bytes (prV v)):=by
  induction v using Option.casesOn with
  | none=>kernel_rfl
  | some n=>
    have hn:n≤65535:=h
    have:=decimal_of (n:=n) (by lia)
    simp only [F_part_octets,F_part_octets_body,runV,pv,this,prV,List.map_cons,List.map_nil,List.length_cons,List.length_nil,bCons,bNil,evs,eCst,eVar,tCmp,eIf,cmpV,isV,eCall,sRet,Option.bind_eq_bind,Option.bind_some,Nat.zero_add,Nat.reduceSub,List.replicate,List.append_nil,List.getElem?_cons_zero,Bool.false_eq_true,if_false,Bool.not_true]
theorem bytesOf_map (l:List (List UInt8)):bytesOf (l.map V.bytes)=some l:=by
  induction l with
  | nil=>rfl
  | cons a r ih=>simp only [List.map_cons,bytesOf,ih,Option.map_some]
theorem joinV_of {c:UInt8} {l:List (List UInt8)} (h1:l.length≤lim) (h2:(joinB [c] l).length≤lim):joinV (.bytes [c]) (.lst (l.map V.bytes))=some (.bytes (joinB [c] l)):=by
  dsimp only [joinV]
  rw [if_pos (by simpa using h1),bytesOf_map]
  dsimp only
  rw [if_pos h2]
structure Printable (L:List Row):Prop where
  ne:∀ r∈L,r≠[]
  le:∀ r∈L,r.length≤32
  val:∀ r∈L,∀ v∈r,ValOk v
  len:L.length≤1000
theorem row_len {r:Row} (h:r.length≤32):(prRow r).length≤224:=by
  have:=join_len (c:=58) (n:=6) (ps:=r.map prV) fun p hp=>by
    refine x12 (List.mem_map.mp hp) ?_;intro v _ hq2;subst hq2;exact pr_len v
  rw [List.length_map] at this
  unfold prRow
  lia
theorem prt_len {L:List Row} (h:Printable L):(prt L).length≤225*L.length:=by
  have:=join_len (c:=59) (n:=224) (ps:=L.map prRow) fun p hp=>by
    refine x12 (List.mem_map.mp hp) ?_;intro r hr hq2;subst hq2;exact row_len (h.le r hr)
  rw [List.length_map] at this
  unfold prt
  lia
theorem row_elt {r:Row} (hl:r.length≤32) (hv:∀ v∈r,ValOk v):eF2 joinV (eCst (.bytes [58])) (eL (lCompA (iSeq (eVar 0)) [] (eCall F_part_octets [(eVar 0)]))) [.val (rowV r)]=some (.bytes (prRow r),[.val (rowV r)]):=by
  have hl':((r.map pv).length≤lim)=True:=eq_true (lim_ge (by rw [List.length_map];lia))
  have hc:=comp_map (it:=iSeq (eVar 0)) (elt:=eCall F_part_octets [(eVar 0)]) (g:=fun d=> .bytes (match d with | .int n=>prV (some n.toNat) | _=>[])) (items:=r.map pv) (st:=[.val (rowV r)]) (st':=[.val (rowV r)])
    (by simp only [rowV,hl',iSeq,itemsV,eVar,Option.bind_eq_bind,Option.bind_some,List.getElem?_cons_zero,if_true])
    (by
      intro d hd
      refine x12 (List.mem_map.mp hd) ?_;intro v hv' hq2;subst hq2
      have:=part_of (hv v hv')
      have e:(V.bytes (match pv v with | .int n=>prV (some n.toNat) | _=>[]))= .bytes (prV v):=by induction v using Option.casesOn <;> rfl
      simp only [eCall,evs,eVar,List.getElem?_cons_zero,this,e,Option.bind_eq_bind,Option.bind_some])
    (by rw [hl'];trivial)
  have e:(r.map pv).map (fun d=>V.bytes (match d with | .int n=>prV (some n.toNat) | _=>[]))=(r.map prV).map V.bytes:=by
    rw [List.map_map,List.map_map]
    apply List.map_congr_left
    intro v _
    induction v using Option.casesOn <;> rfl
  rw [e] at hc
  have hj:=joinV_of (c:=58) (l:=r.map prV) (lim_ge (by rw [List.length_map];lia)) (lim_ge (by have:=row_len hl;unfold prRow at this;lia))
  simp only [eF2,eCst,eL_of hc,hj,Option.bind_eq_bind,Option.bind_some]
  rfl
theorem print_of {L:List Row} (h:Printable L):F_params_octets [rowsV L]=some (.bytes (prt L)):=by
  have hlen:=h.len
  have hl':((L.map rowV).length≤lim)=True:=eq_true (lim_ge (by rw [List.length_map];lia))
  have hi:iSeq (eVar 0) [.val (rowsV L)]=some (L.map rowV,[.val (rowsV L)]):=by simp only [rowsV,hl',iSeq,itemsV,eVar,Option.bind_eq_bind,Option.bind_some,List.getElem?_cons_zero,if_true]
  have hall:∀ d∈L.map rowV,∃ r∈L,d=rowV r:=fun d hd=>by
    refine x12 (List.mem_map.mp hd) ?_;intro r hr hq2;subst hq2;exact ⟨r,hr,rfl⟩
  have hcl:∀ (M:List Row) (s:Slot),(∀ r∈M,r∈L)→∃ s',compLoop [0] [] (eF2 joinV (eCst (.bytes [58])) (eL (lCompA (iSeq (eVar 0)) [] (eCall F_part_octets [(eVar 0)])))) (M.map rowV) [s]=some ((M.map prRow).map V.bytes,[s']):=by
    intro M
    induction M with
    | nil=>intro s _;exact ⟨s,rfl⟩
    | cons r M ih=>
      intro s hM
      refine x11 (ih (.val (rowV r)) fun q hq=>hM q (.tail _ hq)) ?_;intro s' e
      have hr:=hM r (.head _)
      refine ⟨s',?_⟩
      simp only [List.map_cons,compLoop_c,bindT1,tests,List.set_cons_zero,Option.bind_eq_bind,Option.bind_some,if_true,row_elt (h.le r hr) (h.val r hr),e]
  refine x11 (hcl L .unset fun _ q=>q) ?_;intro s' hc
  have hbl:(((L.map prRow).map V.bytes).length≤lim)=True:=eq_true (lim_ge (by rw [List.length_map,List.length_map];lia))
  have hcomp:lCompA (iSeq (eVar 0)) [] (eF2 joinV (eCst (.bytes [58])) (eL (lCompA (iSeq (eVar 0)) [] (eCall F_part_octets [(eVar 0)])))) [.val (rowsV L)]=some ((L.map prRow).map V.bytes,[.val (rowsV L)]):=by
    simp only [lCompA,hi,hc,hbl,if_true,Option.bind_eq_bind,Option.bind_some]
  have hj:=joinV_of (c:=59) (l:=L.map prRow) (lim_ge (by rw [List.length_map];lia)) (lim_ge (by have:=prt_len h;unfold prt at this;lia))
  have e:F_params_octets [rowsV L]=(F_params_octets_body [.val (rowsV L)]).bind (fun x=>match x.1 with | .ret d=>some d | .next=>some .none):=rfl
  rw [e]
  unfold F_params_octets_body
  simp only [bCons,sRet,eF2,eCst,eL_of hcomp,hj,Option.bind_eq_bind,Option.bind_some]
  rfl
theorem row_back {r:Row} (h0:r≠[]) (hv:∀ v∈r,ValOk v):partRow (prRow r)=r:=by
  unfold partRow prRow
  rw [split_join 58 (r.map prV) (by simpa using h0)]
  have:(r.map prV).flatMap (splitB 58)=r.map prV:=by
    have hn:∀ v,splitB 58 (prV v)=[prV v]:=fun v=>split_none 58 _ fun x hx e=>by
      have:=pr_mem v x hx;rw [e] at this;exact absurd this.2 (by decide)
    clear h0 hv
    induction r with
    | nil=>rfl
    | cons v r ih=>rw [List.map_cons,List.flatMap_cons,ih,hn];rfl
  rw [this,List.map_map]
  conv=>rhs;rw [← List.map_id r]
  apply List.map_congr_left
  intro v hv'
  exact val_pr (hv v hv')
theorem row_chars (r:Row):∀ x∈prRow r,48≤x.toNat∧x.toNat≤58:=by
  intro x hx
  rcases mem_join hx with rfl | ⟨p,hp,hx⟩
  · decide
  · refine x12 (List.mem_map.mp hp) ?_;intro v _ hq2;subst hq2
    have:=pr_mem v x hx;lia
theorem prt_keep (L:List Row):keep (prt L)=prt L:=keep_id fun x hx=>by
  have:48≤x.toNat∧x.toNat≤59:=by
    rcases mem_join hx with rfl | ⟨p,hp,hx⟩
    · decide
    · refine x12 (List.mem_map.mp hp) ?_;intro r _ hq2;subst hq2
      have:=row_chars r x hx;lia
  simp [isKept,this.1,this.2]
theorem rows_back {L:List Row} (h:Printable L) (h0:L≠[]):allRows (prt L)=L:=by
  unfold allRows
  rw [prt_keep]
  unfold prt
  rw [split_join 59 (L.map prRow) (by simpa using h0)]
  have:(L.map prRow).flatMap (splitB 59)=L.map prRow:=by
    have hn:∀ r,splitB 59 (prRow r)=[prRow r]:=fun r=>split_none 59 _ fun x hx e=>by
      have:=row_chars r x hx;rw [e] at this;exact absurd this.2 (by decide)
    clear h h0
    induction L with
    | nil=>rfl
    | cons v r ih=>rw [List.map_cons,List.flatMap_cons,ih,hn];rfl
  rw [this,List.map_map]
  conv=>rhs;rw [← List.map_id L]
  apply List.map_congr_left
  intro r hr
  exact row_back (h.ne r hr) (h.val r hr)
theorem rows_val (oct:List UInt8):∀ r∈allRows oct,∀ v∈r,ValOk v:=by
  intro r hr v hv
  refine x12 (List.mem_map.mp hr) ?_;intro b _ hq2;subst hq2
  refine x12 (List.mem_map.mp hv) ?_;intro q _ hq2;subst hq2
  have:∀ (q:List UInt8) (w:Option Nat),ValOk w→ValOk (q.foldl valStep w):=by
    intro q
    induction q with
    | nil=>intro w h;exact h
    | cons c q ih=>intro w _;exact ih _ (valStep_ok w c)
  exact this q none (by unfold ValOk;simp)
end Mine.P
end
section
open PySem
set_option linter.unusedVariables false
namespace Mine.P
structure Bt where
  i:Nat
  one:Nat
  other:Nat
  mask:Nat
noncomputable def Bt.bit (t:Bt):Nat:=2 ^ t.i
noncomputable def bitsL:List Bt:=[⟨0,1,22,3⟩,⟨1,2,22,3⟩,⟨2,3,23,4⟩,⟨3,5,25,24⟩,⟨4,6,25,24⟩,⟨5,7,27,32⟩,⟨6,8,28,64⟩,⟨7,9,29,128⟩,⟨8,53,55,256⟩]
noncomputable def Bt.val (t:Bt):V:= .tup [.int (t.bit:Int),.int (t.one:Int),.int (t.other:Int)]
theorem bits_eq:F_pen_bits []=some (.tup (bitsL.map Bt.val)):=by kernel_rfl
noncomputable def clrL:List Bt→Nat→Nat→List Nat×Nat
  | [],_,h=>([],h)
  | t::r,new,h=>if h &&& t.bit≠0∧new &&& t.bit=0 then (t.other::(clrL r new (h &&& (511 - t.mask))).1,(clrL r new (h &&& (511 - t.mask))).2) else clrL r new h
noncomputable def setL':List Bt→Nat→Nat→List Nat
  | [],_,_=>[]
  | t::r,new,h=>if new &&& t.bit≠0∧h &&& t.bit=0 then t.one::setL' r new h else setL' r new h
noncomputable def setTo:List Bt→Nat→Nat→Nat→Nat
  | [],_,_,x=>x
  | t::r,new,h,x=>if new &&& t.bit≠0∧h &&& t.bit=0 then setTo r new h (x ||| t.bit) else setTo r new h x
noncomputable def btChk (t:Bt):Bool:=decide (act t.other= .clear t.mask) && decide (act t.one= .set t.bit) && !isLookB t.other && !isLookB t.one && decide (t.i<9) && clearL.contains t.mask && setL.contains t.bit && !(511 - t.mask).testBit t.i
theorem bt_all:bitsL.all btChk=true:=by kernel_rfl
structure BtOk (t:Bt):Prop where
  clear:act t.other= .clear t.mask
  set:act t.one= .set t.bit
  l1: ¬ isLook t.other
  l2: ¬ isLook t.one
  i:t.i<9
  m1:t.mask∈clearL
  m2:t.bit∈setL
  gone:(511 - t.mask).testBit t.i=false
theorem btOk {t:Bt} (h:t∈bitsL):BtOk t:=by
  have:=List.all_eq_true.mp bt_all t h
  unfold btChk at this
  simp only [Bool.and_eq_true,decide_eq_true_eq,Bool.not_eq_true',List.contains_iff_mem] at this
  obtain ⟨⟨⟨⟨⟨⟨⟨a,b⟩,c⟩,d⟩,e⟩,f⟩,g⟩,j⟩:=this
  exact ⟨a,b,fun q=>(by rw [isLook_iff.mpr q] at c;exact tfE c),fun q=>(by rw [isLook_iff.mpr q] at d;exact tfE d),e,f,g,j⟩
theorem and_bit (h i:Nat):(h &&& 2 ^ i≠0)↔h.testBit i=true:=by
  constructor
  · intro e
    cases q:h.testBit i
    · refine absurd (Nat.eq_of_testBit_eq fun j=> ?_) e
      rw [Nat.testBit_and,Nat.zero_testBit,Nat.testBit_two_pow]
      by_cases hj:i=j
      · rw [← hj,q,Bool.false_and]
      · rw [decide_eq_false hj,Bool.and_false]
    · rfl
  · intro e q
    have:=congrArg (fun x=>Nat.testBit x i) q
    simp only [Nat.testBit_and,Nat.zero_testBit,Nat.testBit_two_pow,e,decide_true,Bool.and_self] at this
    exact tfE this
theorem and_bit' (h i:Nat):(h &&& 2 ^ i=0)↔h.testBit i=false:=by
  have:=and_bit h i
  constructor
  · intro e;cases q:h.testBit i
    · rfl
    · exact absurd e (this.mpr q)
  · intro e;apply Classical.byContradiction;intro q;rw [this.mp q] at e;exact tfE e
theorem clr_sub:∀ (L:List Bt) (new h j:Nat),(clrL L new h).2.testBit j=true→h.testBit j=true
  | [],_,_,_,e=>e
  | t::r,new,h,j,e=>by
    unfold clrL at e
    split at e
    · have:=clr_sub r new _ j e
      rw [Nat.testBit_and,Bool.and_eq_true] at this
      exact this.1
    · exact clr_sub r new h j e
theorem clr_lt:∀ (L:List Bt) (new h:Nat),h<512→(clrL L new h).2<512
  | [],_,_,e=>e
  | t::r,new,h,e=>by
    unfold clrL
    split
    · exact clr_lt r new _ (and_lt e)
    · exact clr_lt r new h e
theorem clr_in:∀ (L:List Bt) (new h:Nat),(∀ t∈L,BtOk t)→∀ t∈L,(clrL L new h).2.testBit t.i=true→new.testBit t.i=true
  | t::r,new,h,hL,s,hs,e=>by
    have hr:∀ t∈r,BtOk t:=fun q m=>hL q (.tail _ m)
    unfold clrL at e
    split at e
    · rcases List.mem_cons.mp hs with rfl | hs
      · have:=clr_sub r new _ _ e
        rw [Nat.testBit_and,(hL s (.head _)).gone,Bool.and_false] at this
        exact ftE this
      · exact clr_in r new _ hr s hs e
    · rename_i hc
      rcases List.mem_cons.mp hs with rfl | hs
      · have:=clr_sub r new _ _ e
        have h1:=(and_bit h s.i).mpr this
        cases q:new.testBit s.i
        · exact absurd ⟨h1,(and_bit' new s.i).mpr q⟩ hc
        · rfl
      · exact clr_in r new _ hr s hs e
theorem set_bit:∀ (L:List Bt) (new h x j:Nat),(setTo L new h x).testBit j=true↔x.testBit j=true∨∃ t∈L,t.i=j∧new.testBit j=true∧h.testBit j=false
  | [],new,h,x,j=>by simp [setTo]
  | t::r,new,h,x,j=>by
    unfold setTo
    split
    · rename_i hc
      have h1:=(and_bit new t.i).mp hc.1
      have h2:=(and_bit' h t.i).mp hc.2
      rw [set_bit r new h (x ||| t.bit) j,Nat.testBit_or,Bool.or_eq_true]
      constructor
      · rintro ((a | a) | ⟨s,hs,a⟩)
        · exact .inl a
        · have:t.i=j:=by
            unfold Bt.bit at a
            rw [Nat.testBit_two_pow] at a
            exact of_decide_eq_true a
          exact .inr ⟨t,.head _,this,this ▸ h1,this ▸ h2⟩
        · exact .inr ⟨s,.tail _ hs,a⟩
      · rintro (a | ⟨s,hs,a⟩)
        · exact .inl (.inl a)
        · rcases List.mem_cons.mp hs with rfl | hs
          · refine .inl (.inr ?_)
            unfold Bt.bit
            rw [Nat.testBit_two_pow]
            exact decide_eq_true a.1
          · exact .inr ⟨s,hs,a⟩
    · rename_i hc
      rw [set_bit r new h x j]
      constructor
      · rintro (a | ⟨s,hs,a⟩)
        · exact .inl a
        · exact .inr ⟨s,.tail _ hs,a⟩
      · rintro (a | ⟨s,hs,a⟩)
        · exact .inl a
        · rcases List.mem_cons.mp hs with rfl | hs
          · exact absurd ⟨(and_bit new s.i).mpr (a.1 ▸ a.2.1),(and_bit' h s.i).mpr (a.1 ▸ a.2.2)⟩ hc
          · exact .inr ⟨s,hs,a⟩
theorem bits_cover:∀ j,j<9→∃ t∈bitsL,t.i=j:=by
  intro j hj
  have:(List.range 9).all (fun j=>bitsL.any fun t=>t.i==j)=true:=by kernel_rfl
  have:=List.all_eq_true.mp this j (List.mem_range.mpr hj)
  refine x12 (List.any_eq_true.mp this) ?_;intro t ht e
  exact ⟨t,ht,beq_iff_eq.mp e⟩
theorem to_new {old new:Nat} (ho:old<512) (hn:new<512):setTo bitsL new (clrL bitsL new old).2 (clrL bitsL new old).2=new:=by
  have hall:∀ t∈bitsL,BtOk t:=fun t=>btOk
  have hlt:=clr_lt bitsL new old ho
  have hin:=clr_in bitsL new old hall
  generalize (clrL bitsL new old).2=h at hlt hin
  apply Nat.eq_of_testBit_eq
  intro j
  have:=set_bit bitsL new h h j
  by_cases hj:j<9
  · refine x12 (bits_cover j hj) ?_;intro t ht e
    cases q:new.testBit j
    · cases r:(setTo bitsL new h h).testBit j
      · rfl
      · rcases this.mp r with a | ⟨s,hs,a⟩
        · have:=hin t ht (e ▸ a);rw [e,q] at this;exact ftE this
        · rw [q] at a;exact a.2.1.symm ▸ rfl
    · refine this.mpr ?_
      cases r:h.testBit j
      · exact .inr ⟨t,ht,e,q,rfl⟩
      · exact .inl rfl
  · have z:∀ x,x<512→x.testBit j=false:=fun x hx=>Nat.testBit_lt_two_pow (Nat.lt_of_lt_of_le (show x<2 ^ 9 from hx) (Nat.pow_le_pow_right (n:=2) (by decide) (by lia:9≤j)))
    rw [z new hn]
    cases r:(setTo bitsL new h h).testBit j
    · rfl
    · rcases this.mp r with a | ⟨s,hs,a⟩
      · rw [z h hlt] at a;exact ftE a
      · rw [z new hn] at a;exact absurd a.2.1 (by simp)
noncomputable def nums (l:List Nat):List Row:=l.map fun n=>[some n]
theorem run_clr:∀ (L:List Bt) (new:Nat) (p:Pen) (rest:List Row),(∀ t∈L,BtOk t)→runF (nums (clrL L new p.lo).1++rest) p=runF rest { p with lo:=(clrL L new p.lo).2}
  | [],new,p,rest,_=>rfl
  | t::r,new,p,rest,hL=>by
    have ht:=hL t (.head _)
    have hr:∀ t∈r,BtOk t:=fun q m=>hL q (.tail _ m)
    unfold clrL
    split
    · show runF ([some t.other]::(nums _++rest)) p=_
      rw [runF_plain (x:=some t.other) ht.l1]
      have:plain (Option.getD (some t.other) 0) p={ p with lo:=p.lo &&& (511 - t.mask)}:=by
        show doAct (act t.other) p=_
        rw [ht.clear];rfl
      rw [this]
      exact run_clr r new { p with lo:=p.lo &&& (511 - t.mask)} rest hr
    · exact run_clr r new p rest hr
theorem run_set:∀ (L:List Bt) (new h:Nat) (p:Pen) (rest:List Row),(∀ t∈L,BtOk t)→runF (nums (setL' L new h)++rest) p=runF rest { p with lo:=setTo L new h p.lo}
  | [],new,h,p,rest,_=>rfl
  | t::r,new,h,p,rest,hL=>by
    have ht:=hL t (.head _)
    have hr:∀ t∈r,BtOk t:=fun q m=>hL q (.tail _ m)
    unfold setL' setTo
    split
    · show runF ([some t.one]::(nums _++rest)) p=_
      rw [runF_plain (x:=some t.one) ht.l2]
      have:plain (Option.getD (some t.one) 0) p={ p with lo:=p.lo ||| t.bit}:=by
        show doAct (act t.one) p=_
        rw [ht.set];rfl
      rw [this]
      exact run_set r new h { p with lo:=p.lo ||| t.bit} rest hr
    · exact run_set r new h p rest hr
noncomputable def bitR (old new:Nat):List Row:=nums (clrL bitsL new old).1++nums (setL' bitsL new (clrL bitsL new old).2)
theorem run_bit {p:Pen} (hp:p.lo<512) {new:Nat} (hn:new<512) (rest:List Row):runF (bitR p.lo new++rest) p=runF rest { p with lo:=new}:=by
  unfold bitR
  rw [List.append_assoc,run_clr bitsL new p _ fun t=>btOk,run_set bitsL new _ _ rest fun t=>btOk]
  show runF rest { p with lo:=setTo bitsL new (clrL bitsL new p.lo).2 (clrL bitsL new p.lo).2}=_
  rw [to_new hp hn]
theorem clr_count:∀ (L:List Bt) (new h:Nat),(clrL L new h).1.length≤(L.filter fun t=>decide (new &&& t.bit=0)).length
  | [],_,_=>Nat.le_refl _
  | t::r,new,h=>by
    unfold clrL
    rw [List.filter_cons]
    split
    · rename_i hc
      rw [if_pos (decide_eq_true hc.2)]
      have:=clr_count r new (h &&& (511 - t.mask))
      simp only [List.length_cons]
      lia
    · have:=clr_count r new h
      split
      · simp only [List.length_cons];lia
      · exact this
theorem set_count:∀ (L:List Bt) (new h:Nat),(setL' L new h).length≤(L.filter fun t=> !decide (new &&& t.bit=0)).length
  | [],_,_=>Nat.le_refl _
  | t::r,new,h=>by
    unfold setL'
    rw [List.filter_cons]
    split
    · rename_i hc
      rw [if_pos (by rw [decide_eq_false hc.1];rfl)]
      have:=set_count r new h
      simp only [List.length_cons]
      lia
    · have:=set_count r new h
      split
      · simp only [List.length_cons];lia
      · exact this
theorem filter_both {α:Type} (f:α→Bool):∀ L:List α,(L.filter f).length+(L.filter fun t=> !f t).length=L.length
  | []=>rfl
  | a::r=>by
    have:=filter_both f r
    rw [List.filter_cons,List.filter_cons]
    cases f a <;> simp <;> lia
theorem bit_len (old new:Nat):(bitR old new).length≤9:=by
  have h1:=clr_count bitsL new old
  have h2:=set_count bitsL new (clrL bitsL new old).2
  have h3:=filter_both (fun t:Bt=>decide (new &&& t.bit=0)) bitsL
  have h4:bitsL.length=9:=rfl
  unfold bitR nums
  rw [List.length_append,List.length_map,List.length_map]
  lia
end Mine.P
end
section
open PySem
set_option linter.unusedVariables false
namespace Mine.P
noncomputable def bp (h ln:Nat):Pen:=⟨h,ln,-1,-1,-1,0⟩
theorem bp_wf {h ln:Nat} (h1:h<512) (h2:ln<6):WF (bp h ln):=⟨h1,h2,.inl rfl,.inl rfl,.inl rfl⟩
noncomputable def fx (h ln:Nat):Int:=flV (bp h ln)
theorem fx_and {h ln m:Nat} (hh:h<512) (hm:m<512):Builtin.bitAnd (fx h ln) (m:Int)=((h &&& m:Nat):Int):=by
  unfold fx
  rw [flV_nat,bitAnd_nn]
  exact congrArg _ (and_low hh hm)
noncomputable def bAnd1:TF:=tAnd (tVal (eBin .BitAnd (eVar 4) (eVar 5))) (tNot (tVal (eBin .BitAnd (eVar 1) (eVar 5))))
noncomputable def bMate:SF:=sFor [8,9,10] (iSeq (eCall F_pen_bits [])) (bCons (sIf (tCmp .Eq (eVar 10) (eVar 7)) (bCons (sAug 4 .BitAnd (eUn .Invert (eVar 8))) bNil) bNil) bNil)
noncomputable def bBody1:SF:=bCons (sIf bAnd1 (bCons (sApp 2 (eL (lDisp [(eVar 7)]))) (bCons bMate bNil)) bNil) bNil
noncomputable def bAnd2:TF:=tAnd (tVal (eBin .BitAnd (eVar 1) (eVar 5))) (tNot (tVal (eBin .BitAnd (eVar 4) (eVar 5))))
noncomputable def bBody2:SF:=bCons (sIf bAnd2 (bCons (sApp 3 (eL (lDisp [(eVar 6)]))) bNil) bNil) bNil
theorem sgr_bit_eq:F_sgr_bit_params_body=bCons (sTup true [(.l 2 (lDisp [])),(.l 3 (lDisp [])),(.v 4 (eVar 0))]) (bCons (sFor [5,6,7] (iSeq (eCall F_pen_bits [])) bBody1) (bCons (sFor [5,6,7] (iSeq (eCall F_pen_bits [])) bBody2) (bCons (sRet (eL (lAdd (eVar 2) (eVar 3)))) bNil))):=rfl
theorem mate_all (s0 s1 s2 s3 s5 s6 s8 s9 s10:Slot) (x:Int):bitsL.map (fun t=>(bMate [s0,s1,s2,s3,.val (.int x),s5,s6,.val (.int (t.other:Int)),s8,s9,s10]))=
    bitsL.map (fun t=>some (Fl.next,[s0,s1,s2,s3,.val (.int (flRaw (.clear t.mask) x)),s5,s6,.val (.int (t.other:Int)),.val (.int 256),.val (.int 53),.val (.int 55)])):=by kernel_rfl
theorem ne_zero_int (n:Nat):((n:Int) != 0)=decide (n≠0):=by
  by_cases h:n=0
  · subst h;rfl
  · have h1:decide (n≠0)=true:=decide_eq_true h
    rw [h1]
    simp;lia
theorem test1 (s0 s2 s3 s6 s7 s8 s9 s10:Slot) {new old ln ln' m:Nat} (hn:new<512) (ho:old<512) (hm:m<512):
    bAnd1 [s0,.val (.int (fx new ln')),s2,s3,.val (.int (fx old ln)),.val (.int (m:Int)),s6,s7,s8,s9,s10]=some (decide (old &&& m≠0∧new &&& m=0),[s0,.val (.int (fx new ln')),s2,s3,.val (.int (fx old ln)),.val (.int (m:Int)),s6,s7,s8,s9,s10]):=by
  have e1:=fx_and (ln:=ln) ho hm
  have e2:=fx_and (ln:=ln') hn hm
  by_cases h1:old &&& m=0
  · have d1:(((old &&& m:Nat):Int) != 0)=false:=by rw [h1];rfl
    have d:decide (old &&& m≠0∧new &&& m=0)=false:=decide_eq_false fun q=>q.1 h1
    simp only [bAnd1,e1,d1,d,eVar,tAnd,tNot,tVal,eBin,binV,i2V,truV,Option.bind_eq_bind,Option.bind_some,List.getElem?_cons_zero,List.getElem?_cons_succ,Bool.false_eq_true,if_false]
  · have d1:(((old &&& m:Nat):Int) != 0)=true:=by rw [ne_zero_int];exact decide_eq_true h1
    by_cases h2:new &&& m=0
    · have d2:(((new &&& m:Nat):Int) != 0)=false:=by rw [h2];rfl
      have d:decide (old &&& m≠0∧new &&& m=0)=true:=decide_eq_true ⟨h1,h2⟩
      simp only [bAnd1,e1,d1,e2,d2,d,eVar,tAnd,tNot,tVal,eBin,binV,i2V,truV,Option.bind_eq_bind,Option.bind_some,List.getElem?_cons_zero,List.getElem?_cons_succ,if_true,Bool.not_false]
    · have d2:(((new &&& m:Nat):Int) != 0)=true:=by rw [ne_zero_int];exact decide_eq_true h2
      have d:decide (old &&& m≠0∧new &&& m=0)=false:=decide_eq_false fun q=>h2 q.2
      simp only [bAnd1,e1,d1,e2,d2,d,eVar,tAnd,tNot,tVal,eBin,binV,i2V,truV,Option.bind_eq_bind,Option.bind_some,List.getElem?_cons_zero,List.getElem?_cons_succ,ite_self,Bool.not_true]
theorem test2 (s0 s2 s3 s6 s7 s8 s9 s10:Slot) {new old ln ln' m:Nat} (hn:new<512) (ho:old<512) (hm:m<512):
    bAnd2 [s0,.val (.int (fx new ln')),s2,s3,.val (.int (fx old ln)),.val (.int (m:Int)),s6,s7,s8,s9,s10]=some (decide (new &&& m≠0∧old &&& m=0),[s0,.val (.int (fx new ln')),s2,s3,.val (.int (fx old ln)),.val (.int (m:Int)),s6,s7,s8,s9,s10]):=by
  have e1:=fx_and (ln:=ln) ho hm
  have e2:=fx_and (ln:=ln') hn hm
  by_cases h1:new &&& m=0
  · have d1:(((new &&& m:Nat):Int) != 0)=false:=by rw [h1];rfl
    have d:decide (new &&& m≠0∧old &&& m=0)=false:=decide_eq_false fun q=>q.1 h1
    simp only [bAnd2,e2,d1,d,eVar,tAnd,tNot,tVal,eBin,binV,i2V,truV,Option.bind_eq_bind,Option.bind_some,List.getElem?_cons_zero,List.getElem?_cons_succ,Bool.false_eq_true,if_false]
  · have d1:(((new &&& m:Nat):Int) != 0)=true:=by rw [ne_zero_int];exact decide_eq_true h1
    by_cases h2:old &&& m=0
    · have d2:(((old &&& m:Nat):Int) != 0)=false:=by rw [h2];rfl
      have d:decide (new &&& m≠0∧old &&& m=0)=true:=decide_eq_true ⟨h1,h2⟩
      simp only [bAnd2,e1,d1,e2,d2,d,eVar,tAnd,tNot,tVal,eBin,binV,i2V,truV,Option.bind_eq_bind,Option.bind_some,List.getElem?_cons_zero,List.getElem?_cons_succ,if_true,Bool.not_false]
    · have d2:(((old &&& m:Nat):Int) != 0)=true:=by rw [ne_zero_int];exact decide_eq_true h2
      have d:decide (new &&& m≠0∧old &&& m=0)=false:=decide_eq_false fun q=>h2 q.2
      simp only [bAnd2,e1,d1,e2,d2,d,eVar,tAnd,tNot,tVal,eBin,binV,i2V,truV,Option.bind_eq_bind,Option.bind_some,List.getElem?_cons_zero,List.getElem?_cons_succ,ite_self,Bool.not_true]
theorem loop1 (s0 s3:Slot) {new ln ln':Nat} (hn:new<512) (hl:ln<6):∀ (L:List Bt) (old:Nat) (acc:List Row) (s5 s6 s7 s8 s9 s10:Slot),(∀ t∈L,t∈bitsL)→old<512→acc.length+L.length<1000→
    ∃ t5 t6 t7 t8 t9 t10,forLoop [5,6,7] bBody1 (L.map Bt.val) [s0,.val (.int (fx new ln')),.own (acc.map rowV),s3,.val (.int (fx old ln)),s5,s6,s7,s8,s9,s10]=
      some (.next,[s0,.val (.int (fx new ln')),.own ((acc++nums (clrL L new old).1).map rowV),s3,.val (.int (fx (clrL L new old).2 ln)),t5,t6,t7,t8,t9,t10])
  | [],old,acc,s5,s6,s7,s8,s9,s10,_,_,_=>⟨s5,s6,s7,s8,s9,s10,by simp [clrL,nums,forLoop_n]⟩
  | t::r,old,acc,s5,s6,s7,s8,s9,s10,hL,ho,hlen=>by
    have ht:=btOk (hL t (.head _))
    have hr:∀ t∈r,t∈bitsL:=fun q m=>hL q (.tail _ m)
    have hbit:t.bit<512:=set_lt ht.m2
    have hb:bindT [5,6,7] t.val [s0,.val (.int (fx new ln')),.own (acc.map rowV),s3,.val (.int (fx old ln)),s5,s6,s7,s8,s9,s10]=some [s0,.val (.int (fx new ln')),.own (acc.map rowV),s3,.val (.int (fx old ln)),.val (.int (t.bit:Int)),.val (.int (t.one:Int)),.val (.int (t.other:Int)),s8,s9,s10]:=rfl
    have hte:=test1 s0 (.own (acc.map rowV)) s3 (.val (.int (t.one:Int))) (.val (.int (t.other:Int))) s8 s9 s10 (ln:=ln) (ln':=ln') hn ho hbit
    simp only [List.length_cons] at hlen
    by_cases hc:old &&& t.bit≠0∧new &&& t.bit=0
    · rw [decide_eq_true hc] at hte
      have hla:((acc.map rowV).length<lim)=True:=eq_true (by rw [List.length_map];unfold lim;lia)
      have h1:sApp 2 (eL (lDisp [(eVar 7)])) [s0,.val (.int (fx new ln')),.own (acc.map rowV),s3,.val (.int (fx old ln)),.val (.int (t.bit:Int)),.val (.int (t.one:Int)),.val (.int (t.other:Int)),s8,s9,s10]=some (.next,[s0,.val (.int (fx new ln')),.own ((acc++[[some t.other]]).map rowV),s3,.val (.int (fx old ln)),.val (.int (t.bit:Int)),.val (.int (t.one:Int)),.val (.int (t.other:Int)),s8,s9,s10]):=by
        rw [List.map_append]
        simp only [hla,List.map_cons,List.map_nil,evs,eVar,eL,lDisp,sApp,listS,Option.bind_eq_bind,Option.bind_some,List.getElem?_cons_zero,List.getElem?_cons_succ,List.set_cons_zero,List.set_cons_succ,if_true]
        rfl
      have hfl:flRaw (.clear t.mask) (fx old ln)=fx (old &&& (511 - t.mask)) ln:=by
        unfold fx
        rw [fl_of (a:= .clear t.mask) (by simpa [actOk] using ht.m1) trivial (bp_wf ho hl)]
        rfl
      have h2:=List.map_inj_left.mp (mate_all s0 (.val (.int (fx new ln'))) (.own ((acc++[[some t.other]]).map rowV)) s3 (.val (.int (t.bit:Int))) (.val (.int (t.one:Int))) s8 s9 s10 (fx old ln)) t (hL t (.head _))
      rw [hfl] at h2
      obtain ⟨t5,t6,t7,t8,t9,t10,ih⟩:=loop1 s0 s3 (ln:=ln) (ln':=ln') hn hl r (old &&& (511 - t.mask)) (acc++[[some t.other]]) (.val (.int (t.bit:Int))) (.val (.int (t.one:Int))) (.val (.int (t.other:Int))) (.val (.int 256)) (.val (.int 53)) (.val (.int 55)) hr (and_lt ho) (by simp;lia)
      refine ⟨t5,t6,t7,t8,t9,t10,?_⟩
      have hbody:bBody1 [s0,.val (.int (fx new ln')),.own (acc.map rowV),s3,.val (.int (fx old ln)),.val (.int (t.bit:Int)),.val (.int (t.one:Int)),.val (.int (t.other:Int)),s8,s9,s10]=some (.next,[s0,.val (.int (fx new ln')),.own ((acc++[[some t.other]]).map rowV),s3,.val (.int (fx (old &&& (511 - t.mask)) ln)),.val (.int (t.bit:Int)),.val (.int (t.one:Int)),.val (.int (t.other:Int)),.val (.int 256),.val (.int 53),.val (.int 55)]):=
        (bCons_next ((sIf_true hte).trans ((bCons_next h1).trans ((bCons_next h2).trans rfl)))).trans rfl
      rw [clrL,if_pos hc]
      simp only [List.map_cons,forLoop_c,hb,hbody,ih,Option.bind_eq_bind,Option.bind_some,nums,List.append_assoc]
      rfl
    · rw [decide_eq_false hc] at hte
      obtain ⟨t5,t6,t7,t8,t9,t10,ih⟩:=loop1 s0 s3 (ln:=ln) (ln':=ln') hn hl r old acc (.val (.int (t.bit:Int))) (.val (.int (t.one:Int))) (.val (.int (t.other:Int))) s8 s9 s10 hr ho (by lia)
      refine ⟨t5,t6,t7,t8,t9,t10,?_⟩
      have hbody:bBody1 [s0,.val (.int (fx new ln')),.own (acc.map rowV),s3,.val (.int (fx old ln)),.val (.int (t.bit:Int)),.val (.int (t.one:Int)),.val (.int (t.other:Int)),s8,s9,s10]=some (.next,[s0,.val (.int (fx new ln')),.own (acc.map rowV),s3,.val (.int (fx old ln)),.val (.int (t.bit:Int)),.val (.int (t.one:Int)),.val (.int (t.other:Int)),s8,s9,s10]):=
        (bCons_next ((sIf_false hte).trans rfl)).trans rfl
      rw [clrL,if_neg hc]
      simp only [List.map_cons,forLoop_c,hb,hbody,ih,Option.bind_eq_bind,Option.bind_some]
theorem loop2 (s0 s2 s8 s9 s10:Slot) {new old ln ln':Nat} (hn:new<512) (ho:old<512):∀ (L:List Bt) (acc:List Row) (s5 s6 s7:Slot),(∀ t∈L,t∈bitsL)→acc.length+L.length<1000→
    ∃ t5 t6 t7,forLoop [5,6,7] bBody2 (L.map Bt.val) [s0,.val (.int (fx new ln')),s2,.own (acc.map rowV),.val (.int (fx old ln)),s5,s6,s7,s8,s9,s10]=
      some (.next,[s0,.val (.int (fx new ln')),s2,.own ((acc++nums (setL' L new old)).map rowV),.val (.int (fx old ln)),t5,t6,t7,s8,s9,s10])
  | [],acc,s5,s6,s7,_,_=>⟨s5,s6,s7,by simp [setL',nums,forLoop_n]⟩
  | t::r,acc,s5,s6,s7,hL,hlen=>by
    have ht:=btOk (hL t (.head _))
    have hr:∀ t∈r,t∈bitsL:=fun q m=>hL q (.tail _ m)
    have hbit:t.bit<512:=set_lt ht.m2
    have hb:bindT [5,6,7] t.val [s0,.val (.int (fx new ln')),s2,.own (acc.map rowV),.val (.int (fx old ln)),s5,s6,s7,s8,s9,s10]=some [s0,.val (.int (fx new ln')),s2,.own (acc.map rowV),.val (.int (fx old ln)),.val (.int (t.bit:Int)),.val (.int (t.one:Int)),.val (.int (t.other:Int)),s8,s9,s10]:=rfl
    have hte:=test2 s0 s2 (.own (acc.map rowV)) (.val (.int (t.one:Int))) (.val (.int (t.other:Int))) s8 s9 s10 (ln:=ln) (ln':=ln') hn ho hbit
    simp only [List.length_cons] at hlen
    by_cases hc:new &&& t.bit≠0∧old &&& t.bit=0
    · rw [decide_eq_true hc] at hte
      have hla:((acc.map rowV).length<lim)=True:=eq_true (by rw [List.length_map];unfold lim;lia)
      have h1:sApp 3 (eL (lDisp [(eVar 6)])) [s0,.val (.int (fx new ln')),s2,.own (acc.map rowV),.val (.int (fx old ln)),.val (.int (t.bit:Int)),.val (.int (t.one:Int)),.val (.int (t.other:Int)),s8,s9,s10]=some (.next,[s0,.val (.int (fx new ln')),s2,.own ((acc++[[some t.one]]).map rowV),.val (.int (fx old ln)),.val (.int (t.bit:Int)),.val (.int (t.one:Int)),.val (.int (t.other:Int)),s8,s9,s10]):=by
        rw [List.map_append]
        simp only [hla,List.map_cons,List.map_nil,evs,eVar,eL,lDisp,sApp,listS,Option.bind_eq_bind,Option.bind_some,List.getElem?_cons_zero,List.getElem?_cons_succ,List.set_cons_zero,List.set_cons_succ,if_true]
        rfl
      refine x31 (loop2 s0 s2 s8 s9 s10 (ln:=ln) (ln':=ln') hn ho r (acc++[[some t.one]]) (.val (.int (t.bit:Int))) (.val (.int (t.one:Int))) (.val (.int (t.other:Int))) hr (by simp;lia)) ?_;intro t5 t6 t7 ih
      refine ⟨t5,t6,t7,?_⟩
      have hbody:bBody2 [s0,.val (.int (fx new ln')),s2,.own (acc.map rowV),.val (.int (fx old ln)),.val (.int (t.bit:Int)),.val (.int (t.one:Int)),.val (.int (t.other:Int)),s8,s9,s10]=some (.next,[s0,.val (.int (fx new ln')),s2,.own ((acc++[[some t.one]]).map rowV),.val (.int (fx old ln)),.val (.int (t.bit:Int)),.val (.int (t.one:Int)),.val (.int (t.other:Int)),s8,s9,s10]):=
        (bCons_next ((sIf_true hte).trans ((bCons_next h1).trans rfl))).trans rfl
      rw [setL',if_pos hc]
      simp only [List.map_cons,forLoop_c,hb,hbody,ih,Option.bind_eq_bind,Option.bind_some,nums,List.append_assoc]
      rfl
    · rw [decide_eq_false hc] at hte
      refine x31 (loop2 s0 s2 s8 s9 s10 (ln:=ln) (ln':=ln') hn ho r acc (.val (.int (t.bit:Int))) (.val (.int (t.one:Int))) (.val (.int (t.other:Int))) hr (by lia)) ?_;intro t5 t6 t7 ih
      refine ⟨t5,t6,t7,?_⟩
      have hbody:bBody2 [s0,.val (.int (fx new ln')),s2,.own (acc.map rowV),.val (.int (fx old ln)),.val (.int (t.bit:Int)),.val (.int (t.one:Int)),.val (.int (t.other:Int)),s8,s9,s10]=some (.next,[s0,.val (.int (fx new ln')),s2,.own (acc.map rowV),.val (.int (fx old ln)),.val (.int (t.bit:Int)),.val (.int (t.one:Int)),.val (.int (t.other:Int)),s8,s9,s10]):=
        (bCons_next ((sIf_false hte).trans rfl)).trans rfl
      rw [setL',if_neg hc]
      simp only [List.map_cons,forLoop_c,hb,hbody,ih,Option.bind_eq_bind,Option.bind_some]
theorem bit_params {p q:Pen} (hp:WF p) (hq:WF q):F_sgr_bit_params [.int (flV p),.int (flV q)]=some (rowsV (bitR p.lo q.lo)):=by
  have e:F_sgr_bit_params [.int (flV p),.int (flV q)]=(F_sgr_bit_params_body [.val (.int (flV p)),.val (.int (flV q)),.unset,.unset,.unset,.unset,.unset,.unset,.unset,.unset,.unset]).bind (fun x=>match x.1 with | .ret d=>some d | .next=>some .none):=rfl
  have ep:flV p=fx p.lo p.ln:=rfl
  have eq:flV q=fx q.lo q.ln:=rfl
  have hi:∀ st,iSeq (eCall F_pen_bits []) st=some (bitsL.map Bt.val,st):=fun st=>by
    have:((bitsL.map Bt.val).length≤lim)=True:=eq_true (by decide)
    simp only [iSeq,eCall,evs,bits_eq,itemsV,this,if_true,Option.bind_eq_bind,Option.bind_some]
  obtain ⟨t5,t6,t7,t8,t9,t10,h1⟩:=loop1 (.val (.int (flV p))) (.own (([]:List Row).map rowV)) (ln:=p.ln) (ln':=q.ln) hq.lo hp.ln bitsL p.lo [] .unset .unset .unset .unset .unset .unset (fun _ m=>m) hp.lo (by decide)
  have hlt:=clr_lt bitsL q.lo p.lo hp.lo
  refine x31 (loop2 (.val (.int (flV p))) (.own (([]++nums (clrL bitsL q.lo p.lo).1).map rowV)) t8 t9 t10 (ln:=p.ln) (ln':=q.ln) hq.lo hlt bitsL [] t5 t6 t7 (fun _ m=>m) (by decide)) ?_;intro u5 u6 u7 h2
  have hb:=bit_len p.lo q.lo
  unfold bitR at hb ⊢
  rw [List.length_append] at hb
  generalize nums (clrL bitsL q.lo p.lo).1=A at h1 h2 hb ⊢
  generalize nums (setL' bitsL q.lo (clrL bitsL q.lo p.lo).2)=B at h2 hb ⊢
  have hl:((A.map rowV).length+(B.map rowV).length≤lim)=True:=eq_true (lim_ge (by rw [List.length_map,List.length_map];lia))
  rw [e,sgr_bit_eq]
  have h0:sTup true [(.l 2 (lDisp [])),(.l 3 (lDisp [])),(.v 4 (eVar 0))] [.val (.int (flV p)),.val (.int (flV q)),.unset,.unset,.unset,.unset,.unset,.unset,.unset,.unset,.unset]=some (.next,[.val (.int (flV p)),.val (.int (flV q)),.own [],.own [],.val (.int (flV p)),.unset,.unset,.unset,.unset,.unset,.unset]):=by kernel_rfl
  have h1':sFor [5,6,7] (iSeq (eCall F_pen_bits [])) bBody1 [.val (.int (flV p)),.val (.int (flV q)),.own [],.own [],.val (.int (flV p)),.unset,.unset,.unset,.unset,.unset,.unset]=some (.next,[.val (.int (flV p)),.val (.int (flV q)),.own (A.map rowV),.own [],.val (.int (fx (clrL bitsL q.lo p.lo).2 p.ln)),t5,t6,t7,t8,t9,t10]):=by
    simp only [sFor,hi,Option.bind_eq_bind,Option.bind_some]
    exact h1
  have h2':sFor [5,6,7] (iSeq (eCall F_pen_bits [])) bBody2 [.val (.int (flV p)),.val (.int (flV q)),.own (A.map rowV),.own [],.val (.int (fx (clrL bitsL q.lo p.lo).2 p.ln)),t5,t6,t7,t8,t9,t10]=some (.next,[.val (.int (flV p)),.val (.int (flV q)),.own (A.map rowV),.own (B.map rowV),.val (.int (fx (clrL bitsL q.lo p.lo).2 p.ln)),u5,u6,u7,t8,t9,t10]):=by
    simp only [sFor,hi,Option.bind_eq_bind,Option.bind_some]
    exact h2
  refine (congrArg (fun y:Option (Fl×St)=>y.bind _) ((bCons_next h0).trans ((bCons_next h1').trans (bCons_next h2')))).trans ?_
  simp only [lAdd,hl,bCons,bNil,eVar,sRet,eL,Option.bind_eq_bind,Option.bind_some,List.getElem?_cons_zero,List.getElem?_cons_succ,List.set_cons_zero,List.set_cons_succ,if_true]
  rw [← List.map_append]
  rfl
end Mine.P
end
section
open PySem
set_option linter.unusedVariables false
namespace Mine.P
noncomputable def undR (a b:Nat):List Row:=if a=b then [] else if b=0 then [[some 24]] else if b=1 then [[some 4]] else if b=2 then [[some 21]] else [[some 4,some b]]
theorem under_params {a b:Nat} (ha:a<6) (hb:b<6):F_sgr_under_params [.int (a:Int),.int (b:Int)]=some (rowsV (undR a b)):=by
  have h:(List.range 6).map (fun a=>(List.range 6).map fun b=>F_sgr_under_params [.int ((a:Nat):Int),.int ((b:Nat):Int)])=(List.range 6).map (fun a=>(List.range 6).map fun b=>some (rowsV (undR a b))):=by kernel_rfl
  exact List.map_inj_left.mp (List.map_inj_left.mp h a (List.mem_range.mpr ha)) b (List.mem_range.mpr hb)
theorem run_und {p:Pen} {b:Nat} (hb:b<6) (rest:List Row):runF (undR p.ln b++rest) p=runF rest { p with ln:=b}:=by
  unfold undR
  split
  · rename_i h;subst h;rfl
  · split
    · rename_i h;subst h
      exact runF_plain (x:=some 24) (by decide) rest p
    · split
      · rename_i h;subst h
        exact runF_plain (x:=some 4) (by decide) rest p
      · split
        · rename_i h;subst h
          exact runF_plain (x:=some 21) (by decide) rest p
        · have:b=3∨b=4∨b=5:=by lia
          rcases this with rfl | rfl | rfl
          · exact runF_multi (by decide) rest p
          · exact runF_multi (by decide) rest p
          · exact runF_multi (by decide) rest p
theorem and_3584 {p:Pen} (w:WF p):(p.lo+512*p.ln) &&& 3584=512*p.ln:=by
  apply Nat.eq_of_testBit_eq
  intro i
  have e1:(p.lo+512*p.ln).testBit i=if i<9 then p.lo.testBit i else p.ln.testBit (i - 9):=by
    rw [show p.lo+512*p.ln=2 ^ 9*p.ln+p.lo by lia,Nat.testBit_two_pow_mul_add _ (show p.lo<2 ^ 9 from w.lo)]
  have e2:(3584:Nat).testBit i=if i<9 then (0:Nat).testBit i else (7:Nat).testBit (i - 9):=by
    rw [show (3584:Nat)=2 ^ 9*7+0 from rfl,Nat.testBit_two_pow_mul_add _ (show 0<2 ^ 9 by decide)]
  have e3:(512*p.ln).testBit i=if i<9 then (0:Nat).testBit i else p.ln.testBit (i - 9):=by
    rw [show 512*p.ln=2 ^ 9*p.ln+0 by lia,Nat.testBit_two_pow_mul_add _ (show 0<2 ^ 9 by decide)]
  rw [Nat.testBit_and,e1,e2,e3]
  by_cases hi:i<9
  · simp [hi]
  · simp only [if_neg hi]
    have hl:=w.ln
    by_cases h3:i - 9<3
    · have:(7:Nat).testBit (i - 9)=true:=by
        rcases (by lia:i - 9=0∨i - 9=1∨i - 9=2) with h | h | h <;> rw [h] <;> decide
      rw [this,Bool.and_true]
    · have:p.ln.testBit (i - 9)=false:=Nat.testBit_lt_two_pow (Nat.lt_of_lt_of_le (show p.ln<2 ^ 3 by lia) (Nat.pow_le_pow_right (n:=2) (by decide) (by lia:3≤i - 9)))
      rw [this,Bool.false_and]
theorem under_of {p:Pen} (w:WF p):F_under_of [.int (flV p)]=some (.int (p.ln:Int)):=by
  have e:Builtin.bitAnd (flV p) 3584=((512*p.ln:Nat):Int):=by
    rw [flV_nat]
    have:=bitAnd_nn (p.lo+512*p.ln) 3584
    rw [and_3584 w] at this
    exact this
  have e2:((512*p.ln:Nat):Int).fdiv (2 ^ 9)=(p.ln:Int):=by
    rw [Int.fdiv_eq_ediv_of_nonneg _ (by decide)];lia
  have t9:Int.toNat 9=9:=rfl
  simp only [F_under_of,F_under_of_body,runV,e,t9,e2,List.map_cons,List.map_nil,List.length_cons,List.length_nil,bCons,bNil,eCst,eVar,eBin,binV,i2V,sRet,Option.bind_eq_bind,Option.bind_some,Nat.zero_add,Nat.reduceSub,List.replicate,List.append_nil,List.getElem?_cons_zero,Int.reduceLE,if_true,G_UNDER_SHIFT,G_UNDER_MASK]
noncomputable def firstOf (place:Nat):Nat:=20+10*place
noncomputable def colR (place:Nat) (c:Int):List Row:=
  if c= -1 then [[some (firstOf place+9)]]
  else if 16777216≤c then [[some (firstOf place+8)],[some 2],[some (c.toNat / 65536 % 256)],[some (c.toNat / 256 % 256)],[some (c.toNat % 256)]]
  else if place=3∨16≤c then [[some (firstOf place+8)],[some 5],[some c.toNat]]
  else [[some (if c<8 then firstOf place+c.toNat else firstOf place+60+c.toNat - 8)]]
theorem rgb_of_ (n:Nat):F_rgb_of [.int (n:Int)]=some (.tup [.int ((n / 65536 % 256:Nat):Int),.int ((n / 256 % 256:Nat):Int),.int ((n % 256:Nat):Int)]):=by
  have h255:∀ m:Nat,Builtin.bitAnd (m:Int) 255=((m % 256:Nat):Int):=fun m=>by
    have:=bitAnd_nn m 255
    rw [show (255:Nat)=2 ^ 8 - 1 from rfl,Nat.and_two_pow_sub_one_eq_mod] at this
    exact this
  have e16:(n:Int).fdiv (2 ^ 16)=((n / 65536:Nat):Int):=by
    rw [Int.fdiv_eq_ediv_of_nonneg _ (by decide)];lia
  have e8:(n:Int).fdiv (2 ^ 8)=((n / 256:Nat):Int):=by
    rw [Int.fdiv_eq_ediv_of_nonneg _ (by decide)];lia
  have t16:Int.toNat 16=16:=rfl
  have t8:Int.toNat 8=8:=rfl
  simp only [F_rgb_of,F_rgb_of_body,runV,h255,e16,e8,t16,t8,List.map_cons,List.map_nil,List.length_cons,List.length_nil,bCons,bNil,eTup,evs,eCst,eVar,eBin,binV,i2V,sRet,Option.bind_eq_bind,Option.bind_some,Nat.zero_add,Nat.reduceSub,List.replicate,List.append_nil,List.getElem?_cons_zero,Int.reduceLE,if_true]
theorem is_direct_of (c:Int):F_is_direct [.int c]=some (.bool (decide (16777216≤c))):=rfl
theorem col_params {place:Nat} (hp:place=1∨place=2∨place=3) {c:Int} (hc:Col c):F_sgr_colour_params [.int (place:Int),.int c]=some (rowsV (colR place c)):=by
  rcases hc with rfl | ⟨h1,h2⟩ | ⟨h1,h2⟩
  · rcases hp with rfl | rfl | rfl <;> kernel_rfl
  · obtain ⟨n,rfl⟩:∃ n:Nat,c=(n:Int):=⟨c.toNat,by lia⟩
    have h:∀ q,q=1∨q=2∨q=3→(List.range 256).map (fun n=>F_sgr_colour_params [.int ((q:Nat):Int),.int ((n:Nat):Int)])=(List.range 256).map (fun n=>some (rowsV (colR q ((n:Nat):Int)))):=fun q hq=>by
      rcases hq with rfl | rfl | rfl <;> kernel_rfl
    exact List.map_inj_left.mp (h place hp) n (List.mem_range.mpr (by lia))
  · obtain ⟨n,rfl⟩:∃ n:Nat,c=(n:Int):=⟨c.toNat,by lia⟩
    have e1:((n:Int)==(-1:Int))=false:=by simp
    have e2:decide ((16777216:Int)≤(n:Int))=true:=decide_eq_true h1
    have hr:=rgb_of_ n
    have hd:=is_direct_of (n:Int)
    rw [e2] at hd
    have hcol:colR place (n:Int)=[[some (firstOf place+8)],[some 2],[some (n / 65536 % 256)],[some (n / 256 % 256)],[some (n % 256)]]:=by
      unfold colR
      rw [if_neg (by lia),if_pos h1,Int.toNat_natCast]
    have hnd:(([1,2,3]:List Int).Nodup)=True:=eq_true (by decide)
    have hlim:∀ m:Nat,m<100→(m≤lim)=True:=fun m hm=>eq_true (by unfold lim;lia)
    rw [hcol]
    rcases hp with rfl | rfl | rfl <;> simp only [F_sgr_colour_params,F_sgr_colour_params_body,runV,pairsRun,eDct,lookI_c,lookI_n,hnd,e1,hd,hr,List.map_cons,List.map_nil,List.length_cons,List.length_nil,bCons,bNil,sAsg,sIf,bindT1,evs,eCst,eVar,eIdx,idxV,tCmp,tOr,tVal,eIf,cmpV,i2B,eqV,eBin,binV,addV,i2V,eCall,sRet,eL,lDisp,sUnp,truV,Option.bind_eq_bind,Option.bind_some,Nat.zero_add,Nat.reduceAdd,Nat.reduceSub,List.replicate,List.cons_append,List.nil_append,List.getElem?_cons_zero,List.getElem?_cons_succ,List.set_cons_zero,List.set_cons_succ,Int.reduceAdd,Int.reduceNeg,Bool.false_eq_true,if_false,if_true,List.zip_cons_cons,List.zip_nil_right,List.foldl_cons,List.foldl_nil,G_NO_COLOUR,G_FORE,G_BACK,G_UNDER,G_FIRST_BRIGHT,Int.reduceBEq,Int.cast_ofNat_Int] <;> rfl
noncomputable def setP (place:Nat) (c:Int) (p:Pen):Pen:=if place=1 then { p with f:=c} else if place=2 then { p with b:=c} else { p with u:=c}
noncomputable def smallChk:Bool:=(List.range 16).all fun n=>decide (act (if n<8 then 30+n else 30+60+n - 8)= .fore ((n:Nat):Int)) && decide (act (if n<8 then 40+n else 40+60+n - 8)= .back ((n:Nat):Int)) && !isLookB (if n<8 then 30+n else 30+60+n - 8) && !isLookB (if n<8 then 40+n else 40+60+n - 8)
theorem small_all:smallChk=true:=by kernel_rfl
theorem setHue_first {place:Nat} (hp:place=1∨place=2∨place=3) (c:Nat) (p:Pen):setHue (firstOf place+8) (some c) p=setP place (c:Int) p:=by
  rcases hp with rfl | rfl | rfl <;> rfl
theorem look_first {place:Nat} (hp:place=1∨place=2∨place=3):isLook (firstOf place+8):=by
  rcases hp with rfl | rfl | rfl <;> decide
theorem run_col {place:Nat} (hp:place=1∨place=2∨place=3) {c:Int} (hc:Col c) (rest:List Row) (p:Pen):runF (colR place c++rest) p=runF rest (setP place c p):=by
  unfold colR
  split
  · rename_i h;subst h
    have:∀ q:Nat,q=1∨q=2∨q=3→ ¬ isLook (firstOf q+9):=fun q hq=>by rcases hq with rfl | rfl | rfl <;> decide
    have h1:=runF_plain (x:=some (firstOf place+9)) (this place hp) rest p
    refine h1.trans ?_
    rcases hp with rfl | rfl | rfl <;> rfl
  · split
    · rename_i h1 h2
      have h3:c<33554432:=by unfold Col at hc;omega +splitDisjunctions
      refine (runF_look (x:=some (firstOf place+8)) (look_first hp) [some 2] ([some (c.toNat / 65536 % 256)]::[some (c.toNat / 256 % 256)]::[some (c.toNat % 256)]::rest) p).trans ?_
      show runF rest (setHue (firstOf place+8) (hueOf (some 2) [some (c.toNat / 65536 % 256),some (c.toNat / 256 % 256),some (c.toNat % 256)]) p)=_
      have:hueOf (some 2) [some (c.toNat / 65536 % 256),some (c.toNat / 256 % 256),some (c.toNat % 256)]=some c.toNat:=by
        show (if c.toNat / 65536 % 256≤255∧c.toNat / 256 % 256≤255∧c.toNat % 256≤255 then some (16777216+65536*(c.toNat / 65536 % 256)+256*(c.toNat / 256 % 256)+c.toNat % 256) else none)=_
        rw [if_pos ⟨by omega +splitDisjunctions,by omega +splitDisjunctions,by omega +splitDisjunctions⟩]
        congr 1
        omega +splitDisjunctions
      rw [this,setHue_first hp,Int.toNat_of_nonneg (by omega +splitDisjunctions)]
    · split
      · rename_i h1 h2 h3
        have h4:0≤c∧c<256:=by unfold Col at hc;omega +splitDisjunctions
        refine (runF_look (x:=some (firstOf place+8)) (look_first hp) [some 5] ([some c.toNat]::rest) p).trans ?_
        show runF rest (setHue (firstOf place+8) (hueOf (some 5) [some c.toNat]) p)=_
        have:hueOf (some 5) [some c.toNat]=some c.toNat:=by
          show (if c.toNat≤255 then some c.toNat else none)=_
          rw [if_pos (by omega +splitDisjunctions)]
        rw [this,setHue_first hp,Int.toNat_of_nonneg (by omega +splitDisjunctions)]
      · rename_i h1 h2 h3
        have h4:0≤c∧c<16:=by unfold Col at hc;omega +splitDisjunctions
        have hpl:place=1∨place=2:=by omega +splitDisjunctions
        obtain ⟨n,rfl⟩:∃ n:Nat,c=(n:Int):=⟨c.toNat,by omega +splitDisjunctions⟩
        have hn:=List.all_eq_true.mp small_all n (List.mem_range.mpr (by omega +splitDisjunctions))
        simp only [Bool.and_eq_true,decide_eq_true_eq,Bool.not_eq_true'] at hn
        obtain ⟨⟨⟨a1,a2⟩,a3⟩,a4⟩:=hn
        have e:∀ F:Nat,(if (n:Int)<8 then F+(n:Int).toNat else F+60+(n:Int).toNat - 8)=(if n<8 then F+n else F+60+n - 8):=fun F=>by
          rw [Int.toNat_natCast]
          by_cases h:n<8
          · rw [if_pos h,if_pos (by omega +splitDisjunctions)]
          · rw [if_neg h,if_neg (by omega +splitDisjunctions)]
        rw [e]
        rcases hpl with rfl | rfl
        · refine (runF_plain (x:=some _) (fun q=>Bool.noConfusion (a3.symm.trans (isLook_iff.mpr q))) rest p).trans ?_
          show runF rest (doAct (act (if n<8 then 30+n else 30+60+n - 8)) p)=_
          rw [a1];rfl
        · refine (runF_plain (x:=some _) (fun q=>Bool.noConfusion (a4.symm.trans (isLook_iff.mpr q))) rest p).trans ?_
          show runF rest (doAct (act (if n<8 then 40+n else 40+60+n - 8)) p)=_
          rw [a2];rfl
noncomputable def colC (place:Nat) (x y:Int):List Row:=if x=y then [] else colR place y
noncomputable def chgR (a b:Pen):List Row:=bitR a.lo b.lo++(undR a.ln b.ln++(colC 1 a.f b.f++(colC 2 a.b b.b++colC 3 a.u b.u)))
theorem run_chg {p b:Pen} (hp:WF p) (hb:WF b):runF (chgR p b) p={ b with k:=p.k}:=by
  have hC:∀ (place:Nat) (x y:Int),(place=1∨place=2∨place=3)→Col y→∀ (rest:List Row) (q:Pen),(x=y→setP place y q=q)→runF (colC place x y++rest) q=runF rest (setP place y q):=by
    intro place x y hpl hy rest q hq
    unfold colC
    split
    · rename_i e;rw [hq e];rfl
    · exact run_col hpl hy rest q
  unfold chgR
  rw [run_bit hp.lo hb.lo,run_und (p:={ p with lo:=b.lo}) hb.ln,hC 1 p.f b.f (.inl rfl) hb.f _ _ (fun e=>by rw [← e];rfl),hC 2 p.b b.b (.inr (.inl rfl)) hb.b _ _ (fun e=>by rw [← e];rfl)]
  have:=hC 3 p.u b.u (.inr (.inr rfl)) hb.u [] (setP 2 b.b (setP 1 b.f { p with lo:=b.lo,ln:=b.ln})) (fun e=>by rw [← e];rfl)
  rw [List.append_nil] at this
  rw [this]
  rfl
theorem colC_len (place:Nat) (x y:Int):(colC place x y).length≤5:=by
  unfold colC colR
  split
  · simp
  · split
    · simp
    · split
      · simp
      · split <;> simp
theorem und_len (a b:Nat):(undR a b).length≤1:=by
  unfold undR
  split
  · simp
  · split
    · simp
    · split
      · simp
      · split <;> simp
theorem chg_len (a b:Pen):(chgR a b).length≤25:=by
  have h1:=bit_len a.lo b.lo
  have h2:=und_len a.ln b.ln
  have h3:=colC_len 1 a.f b.f
  have h4:=colC_len 2 a.b b.b
  have h5:=colC_len 3 a.u b.u
  unfold chgR
  simp only [List.length_append]
  lia
noncomputable def Fine (r:Row):Prop:=GoodRow r∧∀ v∈r,ValOk v
theorem fine1 {n:Nat} (h:n≤65535):Fine [some n]:=⟨.inl ⟨_,rfl⟩,fun v hv=>by rw [List.mem_singleton] at hv;rw [hv];exact h⟩
theorem bit_fine {a b:Nat}:∀ r∈bitR a b,Fine r:=by
  have hb:bitsL.all (fun t=>decide (t.one≤65535) && decide (t.other≤65535))=true:=by kernel_rfl
  have h1:∀ (L:List Bt) (new h:Nat),(∀ t∈L,t∈bitsL)→∀ n∈(clrL L new h).1,n≤65535:=by
    intro L
    induction L with
    | nil=>intro _ _ _ n hn;cases hn
    | cons t r ih=>
      intro new h hL n hn
      unfold clrL at hn
      split at hn
      · rcases List.mem_cons.mp hn with rfl | hn
        · have:=List.all_eq_true.mp hb t (hL t (.head _))
          exact of_decide_eq_true (Bool.and_eq_true_iff.mp this).2
        · exact ih _ _ (fun q m=>hL q (.tail _ m)) n hn
      · exact ih _ _ (fun q m=>hL q (.tail _ m)) n hn
  have h2:∀ (L:List Bt) (new h:Nat),(∀ t∈L,t∈bitsL)→∀ n∈setL' L new h,n≤65535:=by
    intro L
    induction L with
    | nil=>intro _ _ _ n hn;cases hn
    | cons t r ih=>
      intro new h hL n hn
      unfold setL' at hn
      split at hn
      · rcases List.mem_cons.mp hn with rfl | hn
        · have:=List.all_eq_true.mp hb t (hL t (.head _))
          exact of_decide_eq_true (Bool.and_eq_true_iff.mp this).1
        · exact ih _ _ (fun q m=>hL q (.tail _ m)) n hn
      · exact ih _ _ (fun q m=>hL q (.tail _ m)) n hn
  intro r hr
  unfold bitR nums at hr
  rcases List.mem_append.mp hr with hr | hr
  · refine x12 (List.mem_map.mp hr) ?_;intro n hn hq2;subst hq2
    exact fine1 (h1 bitsL _ _ (fun _ m=>m) n hn)
  · refine x12 (List.mem_map.mp hr) ?_;intro n hn hq2;subst hq2
    exact fine1 (h2 bitsL _ _ (fun _ m=>m) n hn)
theorem und_fine {a b:Nat} (hb:b<6):∀ r∈undR a b,Fine r:=by
  intro r hr
  unfold undR at hr
  split at hr
  · cases hr
  · split at hr
    · rw [List.mem_singleton] at hr;rw [hr];exact fine1 (by decide)
    · split at hr
      · rw [List.mem_singleton] at hr;rw [hr];exact fine1 (by decide)
      · split at hr
        · rw [List.mem_singleton] at hr;rw [hr];exact fine1 (by decide)
        · rw [List.mem_singleton] at hr
          have h3:b=3∨b=4∨b=5:=by lia
          subst hr
          refine ⟨.inr (by rcases h3 with rfl | rfl | rfl <;> decide),fun v hv=> ?_⟩
          simp only [List.mem_cons,List.not_mem_nil,or_false] at hv
          rcases hv with rfl | rfl
          · show (4:Nat)≤65535;decide
          · show b≤65535;lia
theorem col_fine {place:Nat} (hp:place=1∨place=2∨place=3) {x c:Int} (hc:Col c):∀ r∈colC place x c,Fine r:=by
  intro r hr
  have hf:firstOf place≤50:=by unfold firstOf;lia
  unfold colC colR at hr
  split at hr
  · cases hr
  · split at hr
    · rw [List.mem_singleton] at hr;rw [hr];exact fine1 (by lia)
    · split at hr
      · simp only [List.mem_cons,List.not_mem_nil,or_false] at hr
        rcases hr with rfl | rfl | rfl | rfl | rfl <;> exact fine1 (by lia)
      · have:c.toNat<256:=by unfold Col at hc;lia
        split at hr
        · simp only [List.mem_cons,List.not_mem_nil,or_false] at hr
          rcases hr with rfl | rfl | rfl <;> exact fine1 (by lia)
        · rw [List.mem_singleton] at hr
          rw [hr]
          exact fine1 (by split <;> lia)
theorem chg_fine {a b:Pen} (hb:WF b):∀ r∈chgR a b,Fine r:=by
  intro r hr
  unfold chgR at hr
  rcases List.mem_append.mp hr with hr | hr
  · exact bit_fine r hr
  · rcases List.mem_append.mp hr with hr | hr
    · exact und_fine hb.ln r hr
    · rcases List.mem_append.mp hr with hr | hr
      · exact col_fine (.inl rfl) hb.f r hr
      · rcases List.mem_append.mp hr with hr | hr
        · exact col_fine (.inr (.inl rfl)) hb.b r hr
        · exact col_fine (.inr (.inr rfl)) hb.u r hr
end Mine.P
end
section
open PySem
set_option linter.unusedVariables false
namespace Mine.P
noncomputable def compP (j:Nat) (p:Pen):Int:=if j=1 then p.f else if j=2 then p.b else p.u
theorem idxP {j:Nat} (hj:j=1∨j=2∨j=3) (p:Pen):idxV (penV p) (.int (j:Int))=some (.int (compP j p)):=by
  rcases hj with rfl | rfl | rfl <;> kernel_rfl
theorem idx0 (p:Pen):idxV (penV p) (.int 0)=some (.int (flV p)):=by kernel_rfl
noncomputable def chgBody:SF:=bCons (sIf (tCmp .NotEq (eIdx (eVar 0) (eVar 3)) (eIdx (eVar 1) (eVar 3))) (bCons (sAsg 2 (eL (lAdd (eVar 2) (eCall F_sgr_colour_params [(eVar 3),(eIdx (eVar 1) (eVar 3))])))) bNil) bNil) bNil
theorem lAdd_rows {e1 e2:EF} {st st1 st2:St} {R S:List Row} (h1:e1 st=some (rowsV R,st1)) (h2:e2 st1=some (rowsV S,st2)) (hl:R.length+S.length≤1000):eL (lAdd e1 e2) st=some (rowsV (R++S),st2):=by
  have h:((R.map rowV).length+(S.map rowV).length≤lim)=True:=eq_true (lim_ge (by rw [List.length_map,List.length_map];lia))
  simp only [eL,lAdd,h1,h2,rowsV,h,if_true,Option.bind_eq_bind,Option.bind_some,List.map_append]
theorem eIdx_of {e1 e2:EF} {st st1 st2:St} {x y r:V} (h1:e1 st=some (x,st1)) (h2:e2 st1=some (y,st2)) (h3:idxV x y=some r):eIdx e1 e2 st=some (r,st2):=by
  simp only [eIdx,h1,h2,h3,Option.bind_eq_bind,Option.bind_some]
theorem eCall2_of {F:List V→Option V} {e1 e2:EF} {st st1 st2:St} {x y r:V} (h1:e1 st=some (x,st1)) (h2:e2 st1=some (y,st2)) (h3:F [x,y]=some r):eCall F [e1,e2] st=some (r,st2):=by
  simp only [eCall,evs,h1,h2,h3,Option.bind_eq_bind,Option.bind_some]
theorem eCall1_of {F:List V→Option V} {e1:EF} {st st1:St} {x r:V} (h1:e1 st=some (x,st1)) (h3:F [x]=some r):eCall F [e1] st=some (r,st1):=by
  simp only [eCall,evs,h1,h3,Option.bind_eq_bind,Option.bind_some]
theorem tCmp_of {op:CmpOp} {e1 e2:EF} {st st1 st2:St} {x y:V} {r:Bool} (h1:e1 st=some (x,st1)) (h2:e2 st1=some (y,st2)) (h3:cmpV op x y=some r):tCmp op e1 e2 st=some (r,st2):=by
  simp only [tCmp,h1,h2,h3,Option.bind_eq_bind,Option.bind_some]
theorem chg_step (a b:Pen) {j:Nat} (hj:j=1∨j=2∨j=3) {R:List Row} (hR:R.length≤100) (hb:Col (compP j b)):
    chgBody [.val (penV a),.val (penV b),.val (rowsV R),.val (.int (j:Int))]=some (.next,[.val (penV a),.val (penV b),.val (rowsV (R++colC j (compP j a) (compP j b))),.val (.int (j:Int))]):=by
  have hx:eIdx (eVar 0) (eVar 3) [.val (penV a),.val (penV b),.val (rowsV R),.val (.int (j:Int))]=some (.int (compP j a),[.val (penV a),.val (penV b),.val (rowsV R),.val (.int (j:Int))]):=eIdx_of rfl rfl (idxP hj a)
  have hy:eIdx (eVar 1) (eVar 3) [.val (penV a),.val (penV b),.val (rowsV R),.val (.int (j:Int))]=some (.int (compP j b),[.val (penV a),.val (penV b),.val (rowsV R),.val (.int (j:Int))]):=eIdx_of rfl rfl (idxP hj b)
  unfold chgBody
  by_cases h:compP j a=compP j b
  · have ht:tCmp .NotEq (eIdx (eVar 0) (eVar 3)) (eIdx (eVar 1) (eVar 3)) [.val (penV a),.val (penV b),.val (rowsV R),.val (.int (j:Int))]=some (false,[.val (penV a),.val (penV b),.val (rowsV R),.val (.int (j:Int))]):=tCmp_of hx hy (by rw [h];show some (!(compP j b==compP j b))=some false;rw [beq_self_eq_true];rfl)
    have e:colC j (compP j a) (compP j b)=[]:=if_pos h
    rw [e,List.append_nil]
    exact (bCons_next ((sIf_false ht).trans rfl)).trans rfl
  · have ht:tCmp .NotEq (eIdx (eVar 0) (eVar 3)) (eIdx (eVar 1) (eVar 3)) [.val (penV a),.val (penV b),.val (rowsV R),.val (.int (j:Int))]=some (true,[.val (penV a),.val (penV b),.val (rowsV R),.val (.int (j:Int))]):=tCmp_of hx hy (by show some (!(compP j a==compP j b))=some true;rw [beq_false_of_ne h];rfl)
    have e:colC j (compP j a) (compP j b)=colR j (compP j b):=if_neg h
    have hl:=colC_len j (compP j a) (compP j b)
    rw [e] at hl ⊢
    have hc:=lAdd_rows (e1:=eVar 2) (e2:=eCall F_sgr_colour_params [(eVar 3),(eIdx (eVar 1) (eVar 3))]) (st:=[.val (penV a),.val (penV b),.val (rowsV R),.val (.int (j:Int))]) (R:=R) (S:=colR j (compP j b)) rfl (eCall2_of rfl hy (col_params hj hb)) (by lia)
    exact (bCons_next ((sIf_true ht).trans ((bCons_asg hc).trans rfl))).trans rfl
theorem changes_of {a b:Pen} (ha:WF a) (hb:WF b):F_sgr_changes [penV a,penV b]=some (rowsV (chgR a b)):=by
  have e:F_sgr_changes [penV a,penV b]=(F_sgr_changes_body [.val (penV a),.val (penV b),.unset,.unset]).bind (fun x=>match x.1 with | .ret d=>some d | .next=>some .none):=rfl
  have l1:=bit_len a.lo b.lo
  have l2:=und_len a.ln b.ln
  have l3:=colC_len 1 a.f b.f
  have l4:=colC_len 2 a.b b.b
  have h0:∀ s2,eIdx (eVar 0) (eCst G_FLAGS) [.val (penV a),.val (penV b),s2,.unset]=some (.int (flV a),[.val (penV a),.val (penV b),s2,.unset]):=fun s2=>eIdx_of rfl rfl (idx0 a)
  have h1:∀ s2,eIdx (eVar 1) (eCst G_FLAGS) [.val (penV a),.val (penV b),s2,.unset]=some (.int (flV b),[.val (penV a),.val (penV b),s2,.unset]):=fun s2=>eIdx_of rfl rfl (idx0 b)
  have s1:=eCall2_of (h0 .unset) (h1 .unset) (bit_params ha hb)
  have s2:=lAdd_rows (e1:=eVar 2) (st:=[.val (penV a),.val (penV b),.val (rowsV (bitR a.lo b.lo)),.unset]) rfl (eCall2_of (eCall1_of (h0 (.val (rowsV (bitR a.lo b.lo)))) (under_of ha)) (eCall1_of (h1 (.val (rowsV (bitR a.lo b.lo)))) (under_of hb)) (under_params ha.ln hb.ln)) (by lia)
  let R0:=bitR a.lo b.lo++undR a.ln b.ln
  have hR0:R0.length≤10:=by show (bitR a.lo b.lo++undR a.ln b.ln).length≤10;rw [List.length_append];lia
  have c1:=chg_step a b (j:=1) (.inl rfl) (R:=R0) (by lia) hb.f
  have c2:=chg_step a b (j:=2) (.inr (.inl rfl)) (R:=R0++colC 1 a.f b.f) (by rw [List.length_append];lia) hb.b
  have c3:=chg_step a b (j:=3) (.inr (.inr rfl)) (R:=R0++colC 1 a.f b.f++colC 2 a.b b.b) (by rw [List.length_append,List.length_append];lia) hb.u
  have hi:iSeq (eTup [(eCst G_FORE),(eCst G_BACK),(eCst G_UNDER)]) [.val (penV a),.val (penV b),.val (rowsV R0),.unset]=some ([.int ((1:Nat):Int),.int ((2:Nat):Int),.int ((3:Nat):Int)],[.val (penV a),.val (penV b),.val (rowsV R0),.unset]):=rfl
  have hloop:sFor [3] (iSeq (eTup [(eCst G_FORE),(eCst G_BACK),(eCst G_UNDER)])) chgBody [.val (penV a),.val (penV b),.val (rowsV R0),.unset]=some (.next,[.val (penV a),.val (penV b),.val (rowsV (R0++colC 1 a.f b.f++colC 2 a.b b.b++colC 3 a.u b.u)),.val (.int ((3:Nat):Int))]):=by
    simp only [sFor,hi,forLoop_c,forLoop_n,bindT1,List.set_cons_succ,List.set_cons_zero,Option.bind_eq_bind,Option.bind_some]
    rw [show (1:Nat)=1 from rfl]
    erw [c1]
    simp only [Option.bind_some,List.set_cons_succ,List.set_cons_zero]
    erw [c2]
    simp only [Option.bind_some,List.set_cons_succ,List.set_cons_zero]
    erw [c3]
    simp only [Option.bind_some]
    rfl
  have hR:R0++colC 1 a.f b.f++colC 2 a.b b.b++colC 3 a.u b.u=chgR a b:=by
    show (bitR a.lo b.lo++undR a.ln b.ln)++_++_++_=_
    unfold chgR
    simp only [List.append_assoc]
  rw [hR] at hloop
  rw [e]
  refine (congrArg (fun y:Option (Fl×St)=>y.bind _) ((bCons_asg s1).trans ((bCons_asg s2).trans (bCons_next hloop)))).trans ?_
  rfl
noncomputable def told (p:Pen):Pen:={ p with k:=0}
theorem told_wf {p:Pen} (w:WF p):WF (told p):=⟨w.lo,w.ln,w.f,w.b,w.u⟩
noncomputable def toldBody:SF:=bCons (sApp 2 (eIf (tAnd (tVal (eCall F_is_direct [(eVar 3)])) (tNot (tVal (eVar 1)))) (eCall F_nearest_of_256 [(eBin .Sub (eVar 3) (eCst G_DIRECT))]) (eVar 3))) bNil
theorem told_step (a:V) (acc:List V) (h:acc.length<10) (c:Int):toldBody [.val a,.val (.bool true),.own acc,.val (.int c)]=some (.next,[.val a,.val (.bool true),.own (acc++[.int c]),.val (.int c)]):=by
  have hl:(acc.length<lim)=True:=eq_true (by unfold lim;lia)
  have hd:=is_direct_of c
  cases q:decide (16777216≤c) <;> rw [q] at hd <;> simp only [toldBody,hl,hd,bCons,bNil,evs,eCst,eVar,tAnd,tNot,tVal,eIf,eBin,binV,i2V,eCall,sApp,truV,listS,Option.bind_eq_bind,Option.bind_some,List.getElem?_cons_zero,List.getElem?_cons_succ,List.set_cons_zero,List.set_cons_succ,Bool.false_eq_true,if_false,if_true,ite_self,G_DIRECT,Bool.not_true]
theorem told_of (p:Pen):F_pen_told [penV p,.bool true]=some (penV (told p)):=by
  have e:F_pen_told [penV p,.bool true]=(F_pen_told_body [.val (penV p),.val (.bool true),.unset,.unset]).bind (fun x=>match x.1 with | .ret d=>some d | .next=>some .none):=rfl
  have hi:iSeq (eSlc (eVar 0) (some (eCst G_FORE)) (some (eBin .Add (eCst G_UNDER) (eCst (.int 1))))) [.val (penV p),.val (.bool true),.own [],.unset]=some ([.int p.f,.int p.b,.int p.u],[.val (penV p),.val (.bool true),.own [],.unset]):=by kernel_rfl
  have hloop:sFor [3] (iSeq (eSlc (eVar 0) (some (eCst G_FORE)) (some (eBin .Add (eCst G_UNDER) (eCst (.int 1)))))) toldBody [.val (penV p),.val (.bool true),.own [],.unset]=some (.next,[.val (penV p),.val (.bool true),.own [.int p.f,.int p.b,.int p.u],.val (.int p.u)]):=by
    simp only [sFor,hi,forLoop_c,forLoop_n,bindT1,List.set_cons_succ,List.set_cons_zero,Option.bind_eq_bind,Option.bind_some,told_step (penV p) [] (by decide) p.f,List.nil_append,told_step (penV p) [.int p.f] (by simp) p.b,List.cons_append,told_step (penV p) [.int p.f,.int p.b] (by simp) p.u]
  have s1:sAsgL 2 (lDisp []) [.val (penV p),.val (.bool true),.unset,.unset]=some (.next,[.val (penV p),.val (.bool true),.own [],.unset]):=rfl
  rw [e]
  refine (congrArg (fun y:Option (Fl×St)=>y.bind _) ((bCons_next s1).trans (bCons_next hloop))).trans ?_
  kernel_rfl
theorem cmp_eqi (a b:Int):cmpV .Eq (.int a) (.int b)=some (a==b):=rfl
theorem cmp_lei (a b:Int):cmpV .LtE (.int a) (.int b)=some (decide (a≤b)):=rfl
noncomputable def plain0:Pen:=⟨0,0,-1,-1,-1,0⟩
theorem plain0_wf:WF plain0:=⟨by decide,by decide,.inl rfl,.inl rfl,.inl rfl⟩
noncomputable def anewR (b:Pen):List Row:=if chgR plain0 b=[] then [] else [some 0]::chgR plain0 b
noncomputable def bestR (a b:Pen):List Row:=if (prt (chgR a b)).length≤(prt (anewR b)).length then chgR a b else anewR b
noncomputable def partsP (p:Pen):List Int:=[flV p,p.f,p.b,p.u,p.k]
theorem eq_pen (p q:Pen):eqV (penV p) (penV q)=some (partsP p==partsP q):=by kernel_rfl
theorem fine_good {L:List Row} (h:∀ r∈L,Fine r) (hl:L.length≤1000):Printable L:=by
  have hm:multis.all (fun r=> !r.isEmpty && decide (r.length≤32))=true:=by kernel_rfl
  have hg:∀ r,GoodRow r→r≠[]∧r.length≤32:=fun r hr=>by
    rcases hr with ⟨x,rfl⟩ | hr
    · exact ⟨by simp,by simp⟩
    · have:=List.all_eq_true.mp hm r hr
      refine x02 (Bool.and_eq_true_iff.mp this) ?_;intro h1 h2
      exact ⟨fun q=>(by rw [q] at h1;exact ftE h1),of_decide_eq_true h2⟩
  exact ⟨fun r hr=>(hg r (h r hr).1).1,fun r hr=>(hg r (h r hr).1).2,fun r hr=>(h r hr).2,hl⟩
theorem anew_fine {b:Pen} (hb:WF b):∀ r∈anewR b,Fine r:=by
  unfold anewR
  split
  · intro r hr;cases hr
  · intro r hr
    rcases List.mem_cons.mp hr with rfl | hr
    · exact fine1 (by decide)
    · exact chg_fine hb r hr
theorem anew_len (b:Pen):(anewR b).length≤26:=by
  have:=chg_len plain0 b
  unfold anewR
  split
  · simp
  · simp;lia
theorem best_fine {a b:Pen} (hb:WF b):(∀ r∈bestR a b,Fine r)∧(bestR a b).length≤26:=by
  unfold bestR
  split
  · exact ⟨chg_fine hb,by have:=chg_len a b;lia⟩
  · exact ⟨anew_fine hb,anew_len b⟩
theorem len_rows {L:List Row} (h:L.length≤1000):lenV (rowsV L)=some (.int (L.length:Int)):=by
  have:(L.length≤lim)=True:=eq_true (lim_ge (by lia))
  simp only [lenV,rowsV,this,if_true,List.length_map]
theorem len_bytes {l:List UInt8} (h:l.length≤1000000):lenV (.bytes l)=some (.int (l.length:Int)):=by
  have:(l.length≤lim)=True:=eq_true (lim_ge h)
  simp only [lenV,this,if_true]
theorem eIf_true {t:TF} {a b:EF} {st st':St} (h:t st=some (true,st')):eIf t a b st=a st':=by
  simp only [eIf,h,Option.bind_eq_bind,Option.bind_some,if_true]
theorem eIf_false {t:TF} {a b:EF} {st st':St} (h:t st=some (false,st')):eIf t a b st=b st':=by
  simp only [eIf,h,Option.bind_eq_bind,Option.bind_some,Bool.false_eq_true,if_false]
theorem params_of_ {a b:Pen} (ha:WF a) (hb:WF b):F_sgr_params [penV a,penV b,.bool true]=some (if partsP (told a)=partsP (told b) then .none else rowsV (bestR (told a) (told b))):=by
  have e:F_sgr_params [penV a,penV b,.bool true]=(F_sgr_params_body [.val (penV a),.val (penV b),.val (.bool true),.unset,.unset,.unset,.unset]).bind (fun x=>match x.1 with | .ret d=>some d | .next=>some .none):=rfl
  have h1:sTup true [(.v 3 (eCall F_pen_told [(eVar 0),(eVar 2)])),(.v 4 (eCall F_pen_told [(eVar 1),(eVar 2)]))] [.val (penV a),.val (penV b),.val (.bool true),.unset,.unset,.unset,.unset]=some (.next,[.val (penV a),.val (penV b),.val (.bool true),.val (penV (told a)),.val (penV (told b)),.unset,.unset]):=by
    simp only [told_of,evs,eVar,eCall,sTup,partsRun,Part.run,Option.bind_eq_bind,Option.bind_some,List.cons_append,List.nil_append,List.getElem?_cons_zero,List.getElem?_cons_succ,List.set_cons_zero,List.set_cons_succ,if_true,List.foldl_cons,List.foldl_nil,List.reverse_cons,List.reverse_nil]
  have wa:=told_wf ha
  have wb:=told_wf hb
  generalize told a=A at h1 wa ⊢
  generalize told b=B at h1 wb ⊢
  rw [e]
  by_cases hab:partsP A=partsP B
  · rw [if_pos hab]
    have ht:tCmp .Eq (eVar 3) (eVar 4) [.val (penV a),.val (penV b),.val (.bool true),.val (penV A),.val (penV B),.unset,.unset]=some (true,[.val (penV a),.val (penV b),.val (.bool true),.val (penV A),.val (penV B),.unset,.unset]):=tCmp_of rfl rfl (by show eqV (penV A) (penV B)=_;rw [eq_pen,hab,beq_self_eq_true])
    refine (congrArg (fun y:Option (Fl×St)=>y.bind _) ((bCons_next h1).trans (bCons_ret ((sIf_true ht).trans rfl)))).trans ?_
    rfl
  · rw [if_neg hab]
    have ht:tCmp .Eq (eVar 3) (eVar 4) [.val (penV a),.val (penV b),.val (.bool true),.val (penV A),.val (penV B),.unset,.unset]=some (false,[.val (penV a),.val (penV b),.val (.bool true),.val (penV A),.val (penV B),.unset,.unset]):=tCmp_of rfl rfl (by show eqV (penV A) (penV B)=_;rw [eq_pen,beq_false_of_ne hab])
    have h2:sIf (tCmp .Eq (eVar 3) (eVar 4)) (bCons (sRet (eCst .none)) bNil) bNil [.val (penV a),.val (penV b),.val (.bool true),.val (penV A),.val (penV B),.unset,.unset]=some (.next,[.val (penV a),.val (penV b),.val (.bool true),.val (penV A),.val (penV B),.unset,.unset]):=(sIf_false ht).trans rfl
    have h3:eCall F_sgr_changes [(eVar 3),(eVar 4)] [.val (penV a),.val (penV b),.val (.bool true),.val (penV A),.val (penV B),.unset,.unset]=some (rowsV (chgR A B),[.val (penV a),.val (penV b),.val (.bool true),.val (penV A),.val (penV B),.unset,.unset]):=eCall2_of rfl rfl (changes_of wa wb)
    have h4:eCall F_sgr_changes [(eCst G_PLAIN),(eVar 4)] [.val (penV a),.val (penV b),.val (.bool true),.val (penV A),.val (penV B),.val (rowsV (chgR A B)),.unset]=some (rowsV (chgR plain0 B),[.val (penV a),.val (penV b),.val (.bool true),.val (penV A),.val (penV B),.val (rowsV (chgR A B)),.unset]):=eCall2_of (x:=penV plain0) rfl rfl (changes_of plain0_wf wb)
    have lc:=chg_len A B
    have lp:=chg_len plain0 B
    have la:=anew_len B
    have h5:eIf (tCmp .Eq (eF1 lenV (eVar 6)) (eCst (.int 0))) (eL (lDisp [])) (eL (lAdd (eL (lDisp [(eL (lDisp [(eCst G_SGR_RESET)]))])) (eVar 6))) [.val (penV a),.val (penV b),.val (.bool true),.val (penV A),.val (penV B),.val (rowsV (chgR A B)),.val (rowsV (chgR plain0 B))]=some (rowsV (anewR B),[.val (penV a),.val (penV b),.val (.bool true),.val (penV A),.val (penV B),.val (rowsV (chgR A B)),.val (rowsV (chgR plain0 B))]):=by
      have hl:eF1 lenV (eVar 6) [.val (penV a),.val (penV b),.val (.bool true),.val (penV A),.val (penV B),.val (rowsV (chgR A B)),.val (rowsV (chgR plain0 B))]=some (.int ((chgR plain0 B).length:Int),[.val (penV a),.val (penV b),.val (.bool true),.val (penV A),.val (penV B),.val (rowsV (chgR A B)),.val (rowsV (chgR plain0 B))]):=eF1_of rfl (len_rows (by lia))
      unfold anewR
      by_cases hn:chgR plain0 B=[]
      · rw [if_pos hn]
        refine (eIf_true (tCmp_of (op:= .Eq) (y:= .int 0) hl rfl ?_)).trans rfl
        rw [hn];rfl
      · rw [if_neg hn]
        have hz:(((chgR plain0 B).length:Int)==(0:Int))=false:=by
          have:(chgR plain0 B).length≠0:=fun q=>hn (List.length_eq_zero_iff.mp q)
          simp;lia
        refine (eIf_false (tCmp_of (op:= .Eq) (y:= .int 0) hl rfl (by rw [cmp_eqi,hz]))).trans ?_
        exact lAdd_rows (R:=[[some 0]]) rfl rfl (by show 1+(chgR plain0 B).length≤1000;lia)
    have pc:=print_of (fine_good (chg_fine (a:=A) wb) (by lia))
    have pa:=print_of (fine_good (anew_fine wb) (by lia))
    have npc:=prt_len (fine_good (chg_fine (a:=A) wb) (by lia))
    have npa:=prt_len (fine_good (anew_fine wb) (by lia))
    have h6:eIf (tCmp .LtE (eF1 lenV (eCall F_params_octets [(eVar 5)])) (eF1 lenV (eCall F_params_octets [(eVar 6)]))) (eVar 5) (eVar 6) [.val (penV a),.val (penV b),.val (.bool true),.val (penV A),.val (penV B),.val (rowsV (chgR A B)),.val (rowsV (anewR B))]=some (rowsV (bestR A B),[.val (penV a),.val (penV b),.val (.bool true),.val (penV A),.val (penV B),.val (rowsV (chgR A B)),.val (rowsV (anewR B))]):=by
      have t1:eF1 lenV (eCall F_params_octets [(eVar 5)]) [.val (penV a),.val (penV b),.val (.bool true),.val (penV A),.val (penV B),.val (rowsV (chgR A B)),.val (rowsV (anewR B))]=some (.int ((prt (chgR A B)).length:Int),[.val (penV a),.val (penV b),.val (.bool true),.val (penV A),.val (penV B),.val (rowsV (chgR A B)),.val (rowsV (anewR B))]):=eF1_of (eCall1_of rfl pc) (len_bytes (by lia))
      have t2:eF1 lenV (eCall F_params_octets [(eVar 6)]) [.val (penV a),.val (penV b),.val (.bool true),.val (penV A),.val (penV B),.val (rowsV (chgR A B)),.val (rowsV (anewR B))]=some (.int ((prt (anewR B)).length:Int),[.val (penV a),.val (penV b),.val (.bool true),.val (penV A),.val (penV B),.val (rowsV (chgR A B)),.val (rowsV (anewR B))]):=eF1_of (eCall1_of rfl pa) (len_bytes (by lia))
      unfold bestR
      by_cases hle:(prt (chgR A B)).length≤(prt (anewR B)).length
      · rw [if_pos hle]
        exact (eIf_true (tCmp_of (op:= .LtE) t1 t2 (by rw [cmp_lei,decide_eq_true (by lia)]))).trans rfl
      · rw [if_neg hle]
        exact (eIf_false (tCmp_of (op:= .LtE) t1 t2 (by rw [cmp_lei,decide_eq_false (by lia)]))).trans rfl
    have h7:sRet (eIf (tCmp .LtE (eF1 lenV (eCall F_params_octets [(eVar 5)])) (eF1 lenV (eCall F_params_octets [(eVar 6)]))) (eVar 5) (eVar 6)) [.val (penV a),.val (penV b),.val (.bool true),.val (penV A),.val (penV B),.val (rowsV (chgR A B)),.val (rowsV (anewR B))]=some (.ret (rowsV (bestR A B)),[.val (penV a),.val (penV b),.val (.bool true),.val (penV A),.val (penV B),.val (rowsV (chgR A B)),.val (rowsV (anewR B))]):=by
      simp only [sRet,h6,Option.bind_eq_bind,Option.bind_some]
    unfold F_sgr_params_body
    rw [bCons_next h1,bCons_next h2,bCons_asg h3]
    simp only [List.set_cons_succ,List.set_cons_zero]
    rw [bCons_asg h4]
    simp only [List.set_cons_succ,List.set_cons_zero]
    rw [bCons_asg h5]
    simp only [List.set_cons_succ,List.set_cons_zero]
    rw [bCons_ret h7]
    rfl
end Mine.P
end
section
open PySem
set_option linter.unusedVariables false
namespace Mine.P
theorem good_facts {r:Row} (hr:GoodRow r):r≠[]∧r.length≤32:=by
  have hm:multis.all (fun r=> !r.isEmpty && decide (r.length≤32))=true:=by kernel_rfl
  rcases hr with ⟨x,rfl⟩ | hr
  · exact ⟨by simp,by simp⟩
  · have:=List.all_eq_true.mp hm r hr
    refine x02 (Bool.and_eq_true_iff.mp this) ?_;intro h1 h2
    exact ⟨fun q=>(by rw [q] at h1;exact ftE h1),of_decide_eq_true h2⟩
theorem law_ok {oct:List UInt8} (hg:∀ r∈allRows oct,GoodRow r):RowsOk (lawRows oct)∧∀ r∈lawRows oct,GoodRow r:=by
  have h:∀ r∈lawRows oct,GoodRow r:=fun r hr=>hg r (List.mem_of_mem_take hr)
  refine ⟨⟨fun r hr=>(good_facts (h r hr)).1,fun r hr=> ?_,?_⟩,h⟩
  · have:=(good_facts (h r hr)).2;lia
  · unfold lawRows;simp;lia
noncomputable def eff (oct:List UInt8) (p:Pen):Pen:=runF (lawRows oct) p
theorem eff_wf {oct:List UInt8} (hg:∀ r∈allRows oct,GoodRow r) {p:Pen} (w:WF p):WF (eff oct p):=wf_runF w (law_ok hg).2
theorem seen_bytes {oct:List UInt8} (hl:oct.length+1≤lim) (hg:∀ r∈allRows oct,GoodRow r) {p:Pen} (w:WF p):F_law_seen [penV p,.bytes oct]=some (penV (eff oct p)):=
  seen_of (parted_of hl) (law_ok hg).1 (law_ok hg).2 w
theorem read_bytes {oct:List UInt8} (hl:oct.length≤lim) (hg:∀ r∈allRows oct,GoodRow r):F_read_params [.bytes oct]=some (rowsV (readRows oct)):=
  read_params_of hl fun r hr=>(good_facts (hg r hr)).2
theorem apply_bytes {oct:List UInt8} (hg:∀ r∈allRows oct,GoodRow r) {p:Pen} (w:WF p):F_apply_sgr [penV p,rowsV (readRows oct)]=some (penV (eff oct p)):=by
  have hr:∀ r∈readRows oct,GoodRow r:=fun r hr=>by
    unfold readRows at hr
    split at hr
    · cases hr
    · exact (law_ok hg).2 r hr
  have ho:RowsOk (readRows oct):=⟨fun r h=>(good_facts (hr r h)).1,fun r h=>by have:=(good_facts (hr r h)).2;lia,by
    unfold readRows;split
    · simp
    · exact (law_ok hg).1.len⟩
  have:=apply_of ho hr w
  rw [rows0_read] at this
  exact this
noncomputable def reach (R:List Row) (p:Pen):Pen:=runF (rows0 R) p
theorem best_leads {a b:Pen} (ha:WF a) (hb:WF b) (hne:partsP (told a)≠partsP (told b)):reach (bestR (told a) (told b)) a={ b with k:=a.k}:=by
  have h1:=run_chg ha hb
  unfold bestR
  split
  · show reach (chgR a b) a=_
    unfold reach rows0
    split
    · rename_i h0
      rw [h0] at h1
      exfalso
      apply hne
      have h2:a={ b with k:=a.k}:=h1
      have:told a=told b:=by
        have:=congrArg told h2
        exact this
      rw [this]
    · exact h1
  · have h2:∀ k,runF (chgR plain0 (told b)) ⟨0,0,-1,-1,-1,k⟩={ b with k:=k}:=fun k=>
      run_chg (p:=⟨0,0,-1,-1,-1,k⟩) (b:=told b) ⟨by show 0<512;decide,by show 0<6;decide,.inl rfl,.inl rfl,.inl rfl⟩ (told_wf hb)
    have hz:plain 0 a=⟨0,0,-1,-1,-1,a.k⟩:=rfl
    unfold anewR
    split
    · rename_i h0
      rw [h0] at h2
      exact h2 a.k
    · show runF (rows0 ([some 0]::chgR plain0 (told b))) a=_
      have:rows0 ([some 0]::chgR plain0 (told b))=[some 0]::chgR plain0 (told b):=if_neg (by simp)
      rw [this,runF_plain (x:=some 0) (by decide)]
      exact h2 a.k
theorem prt_rows {R:List Row} (h:Printable R) (h32:R.length≤32):lawRows (prt R)=rows0 R:=by
  unfold rows0
  split
  · rename_i h0;subst h0;rfl
  · rename_i h0
    unfold lawRows
    rw [rows_back h h0,List.take_of_length_le h32]
theorem prt_good {R:List Row} (h:Printable R) (hg:∀ r∈R,GoodRow r):∀ r∈allRows (prt R),GoodRow r:=by
  by_cases h0:R=[]
  · subst h0
    intro r hr
    have:r∈([[none]]:List Row):=hr
    rw [List.mem_singleton] at this
    exact .inl ⟨none,this⟩
  · rw [rows_back h h0];exact hg
theorem clip_neg (n:Nat):clipAt n (-1)=n - 1:=by
  unfold clipAt
  rw [if_pos (by decide)]
  lia
theorem cut_last (x:List UInt8):cut (27::91::(x++[109])) (some (-1)) none=[109]:=by
  unfold cut
  simp only [Option.elim_some,Option.elim_none,clip_neg]
  have hl:(27::91::(x++[109]):List UInt8).length=x.length+3:=by simp
  rw [hl]
  have:(27::91::(x++[109]):List UInt8).drop (x.length+3 - 1)=[109]:=by
    rw [show x.length+3 - 1=x.length+2 by lia]
    simp
  rw [this,show x.length+3 - (x.length+3 - 1)=1 by lia]
  rfl
theorem cut_in (x:List UInt8):cut (27::91::(x++[109])) (some 2) (some (-1))=x:=by
  unfold cut
  have h2:=clip_nat (27::91::(x++[109]):List UInt8).length 2
  simp only [Option.elim_some,clip_neg]
  have hl:(27::91::(x++[109]):List UInt8).length=x.length+3:=by simp
  rw [show (2:Int)=((2:Nat):Int) from rfl,h2,hl]
  rw [show min 2 (x.length+3)=2 by lia,show x.length+3 - 1 - 2=x.length by lia]
  simp
theorem cut_two (x:List UInt8):cut (27::91::(x++[109])) none (some 2)=[27,91]:=by
  have:=cut_to (27::91::(x++[109]):List UInt8) 2
  exact this
theorem octets_of {a b:Pen} (ha:WF a) (hb:WF b):F_sgr_octets [penV a,penV b]=some (.bytes (if partsP (told a)=partsP (told b) then [] else 27::91::(prt (bestR (told a) (told b))++[109]))):=by
  have e:F_sgr_octets [penV a,penV b]=(F_sgr_octets_body [.val (penV a),.val (penV b),.val (.bool true),.unset]).bind (fun x=>match x.1 with | .ret d=>some d | .next=>some .none):=rfl
  have hp:=params_of_ ha hb
  have h1:eCall F_sgr_params [(eVar 0),(eVar 1),(eVar 2)] [.val (penV a),.val (penV b),.val (.bool true),.unset]=some (if partsP (told a)=partsP (told b) then .none else rowsV (bestR (told a) (told b)),[.val (penV a),.val (penV b),.val (.bool true),.unset]):=by
    simp only [eCall,evs,eVar,List.getElem?_cons_zero,List.getElem?_cons_succ,hp,Option.bind_eq_bind,Option.bind_some]
  rw [e]
  unfold F_sgr_octets_body
  rw [bCons_asg h1]
  simp only [List.set_cons_succ,List.set_cons_zero]
  split
  · kernel_rfl
  · refine x02 (best_fine (a:=told a) (b:=told b) (told_wf hb)) ?_;intro hf hl
    have hP:=fine_good hf (by lia)
    have hpr:=print_of hP
    have hpl:=prt_len hP
    generalize bestR (told a) (told b)=R at*
    have l1:((2:Nat)+(prt R).length≤lim)=True:=eq_true (lim_ge (by lia))
    have l2:((prt R).length+2+1≤lim)=True:=eq_true (lim_ge (by lia))
    simp only [rowsV,hpr,List.length_cons,List.length_nil,bCons,bNil,evs,eCst,eVar,tCmp,eIf,cmpV,isV,eBin,binV,addV,eCall,sRet,Option.bind_eq_bind,Option.bind_some,Nat.zero_add,Nat.reduceAdd,List.cons_append,List.nil_append,List.getElem?_cons_zero,List.getElem?_cons_succ,Bool.false_eq_true,if_false,Bool.not_true] at hpr ⊢
    simp only [l1,l2,List.length_cons,List.length_nil,Option.bind_some,Nat.zero_add,List.cons_append,if_true]
theorem inside_of (x:List UInt8) (h:x.length≤100000):F_law_inside [.bytes (27::91::(x++[109]))]=some (.bytes x):=by
  have hl:((27::91::(x++[109]):List UInt8).length≤lim)=True:=eq_true (lim_ge (by simp;lia))
  have hs:small 2=true:=rfl
  have hs':small (-1)=true:=rfl
  have e:F_law_inside [.bytes (27::91::(x++[109]))]=(F_law_inside_body [.val (.bytes (27::91::(x++[109])))]).bind (fun x=>match x.1 with | .ret d=>some d | .next=>some .none):=rfl
  have hc:=cut_in x
  rw [e]
  generalize (27::91::(x++[109]):List UInt8)=t at hl hc ⊢
  simp only [F_law_inside_body,hl,hs,hs',hc,bCons,bNil,eCst,eVar,unV,eUn,sRet,opt,eSlc,slcV,truV,smallO,Option.bind_eq_bind,Option.bind_some,List.getElem?_cons_zero,Int.reduceNeg,if_true,Bool.and_true]
theorem leads {a b:Pen} (ha:WF a) (hb:WF b):F_law_leads_right [penV a,penV b]=some (.bool true):=by
  have e:F_law_leads_right [penV a,penV b]=(F_law_leads_right_body [.val (penV a),.val (penV b),.unset]).bind (fun x=>match x.1 with | .ret d=>some d | .next=>some .none):=rfl
  have ho:=octets_of ha hb
  rw [e]
  unfold F_law_leads_right_body
  by_cases hab:partsP (told a)=partsP (told b)
  · rw [if_pos hab] at ho
    rw [bCons_asg (eCall2_of (st:=[.val (penV a),.val (penV b),.unset]) rfl rfl ho)]
    simp only [List.set_cons_succ,List.set_cons_zero]
    have h1:tCmp .Eq (eVar 2) (eCst (.bytes [])) [.val (penV a),.val (penV b),.val (.bytes [])]=some (true,[.val (penV a),.val (penV b),.val (.bytes [])]):=rfl
    rw [bCons_ret ((sIf_true h1).trans (bCons_ret (d:= .bool ([flV a,a.f,a.b,a.u]==[flV b,b.f,b.b,b.u])) (st':=[.val (penV a),.val (penV b),.val (.bytes [])]) (by kernel_rfl)))]
    unfold partsP at hab
    simp only [List.cons.injEq,and_true] at hab
    refine x05 hab ?_;(try clear hab);intro q1 q2 q3 q4 _
    have p1:flV a=flV b:=q1
    have p2:a.f=b.f:=q2
    have p3:a.b=b.b:=q3
    have p4:a.u=b.u:=q4
    rw [p1,p2,p3,p4,beq_self_eq_true]
    rfl
  · rw [if_neg hab] at ho
    have hlead:=best_leads ha hb hab
    refine x02 (best_fine (a:=told a) (b:=told b) (told_wf hb)) ?_;intro hf hl
    have hP:=fine_good hf (by lia)
    have hpl:=prt_len hP
    have hrow:=prt_rows hP (by lia)
    have hgood:=prt_good hP (fun r hr=>(hf r hr).1)
    generalize bestR (told a) (told b)=R at*
    have hlen:(prt R).length≤10000:=by lia
    have hseen:=seen_bytes (lim_ge (by lia):(prt R).length+1≤lim) hgood ha
    have heff:eff (prt R) a={ b with k:=a.k}:=by
      unfold eff;rw [hrow];exact hlead
    rw [heff] at hseen
    have hin:=inside_of (prt R) (by lia)
    have hc1:=cut_two (prt R)
    have hc2:=cut_last (prt R)
    have htl:((27::91::(prt R++[109]):List UInt8).length≤lim)=True:=eq_true (lim_ge (by simp;lia))
    have hne:((27::91::(prt R++[109]):List UInt8)==[])=false:=rfl
    rw [bCons_asg (eCall2_of (st:=[.val (penV a),.val (penV b),.unset]) rfl rfl ho)]
    simp only [List.set_cons_succ,List.set_cons_zero]
    generalize (27::91::(prt R++[109]):List UInt8)=t at*
    have h1:tCmp .Eq (eVar 2) (eCst (.bytes [])) [.val (penV a),.val (penV b),.val (.bytes t)]=some (false,[.val (penV a),.val (penV b),.val (.bytes t)]):=by
      simp only [hne,eCst,eVar,tCmp,cmpV,eqV,Option.bind_eq_bind,Option.bind_some,List.getElem?_cons_zero,List.getElem?_cons_succ]
    rw [bCons_next ((sIf_false h1).trans (show bNil [.val (penV a),.val (penV b),.val (.bytes t)]=some (.next,[.val (penV a),.val (penV b),.val (.bytes t)]) from rfl))]
    have hs2:small 2=true:=rfl
    have hs1:small (-1)=true:=rfl
    have s1:eCmp .Eq (eSlc (eVar 2) none (some (eCst (.int 2)))) (eCst (.bytes [27,91])) [.val (penV a),.val (penV b),.val (.bytes t)]=some (.bool true,[.val (penV a),.val (penV b),.val (.bytes t)]):=by
      have:(([27,91]:List UInt8)==[27,91])=true:=rfl
      simp only [eCmp,hs2,hc1,htl,this,eCst,eVar,cmpV,eqV,opt,eSlc,slcV,smallO,Option.bind_eq_bind,Option.bind_some,List.getElem?_cons_zero,List.getElem?_cons_succ,if_true,Bool.and_true]
    have s2:eCmp .Eq (eSlc (eVar 2) (some (eUn .USub (eCst (.int 1)))) none) (eCst (.bytes [109])) [.val (penV a),.val (penV b),.val (.bytes t)]=some (.bool true,[.val (penV a),.val (penV b),.val (.bytes t)]):=by
      have:(([109]:List UInt8)==[109])=true:=rfl
      simp only [eCmp,hs1,hc2,htl,this,eCst,eVar,cmpV,eqV,unV,eUn,opt,eSlc,slcV,truV,smallO,Option.bind_eq_bind,Option.bind_some,List.getElem?_cons_zero,List.getElem?_cons_succ,Int.reduceNeg,if_true,Bool.and_true]
    have s3:eCall F_law_seen [(eVar 0),(eCall F_law_inside [(eVar 2)])] [.val (penV a),.val (penV b),.val (.bytes t)]=some (penV { b with k:=a.k},[.val (penV a),.val (penV b),.val (.bytes t)]):=eCall2_of rfl (eCall1_of rfl hin) hseen
    have s4:eBin .Add (eSlc (eVar 1) none (some (eCst (.int 4)))) (eSlc (eVar 0) (some (eCst (.int 4))) none) [.val (penV a),.val (penV b),.val (.bytes t)]=some (penV { b with k:=a.k},[.val (penV a),.val (penV b),.val (.bytes t)]):=by kernel_rfl
    have s5:eCmp .Eq (eCall F_law_seen [(eVar 0),(eCall F_law_inside [(eVar 2)])]) (eBin .Add (eSlc (eVar 1) none (some (eCst (.int 4)))) (eSlc (eVar 0) (some (eCst (.int 4))) none)) [.val (penV a),.val (penV b),.val (.bytes t)]=some (.bool true,[.val (penV a),.val (penV b),.val (.bytes t)]):=by
      have:cmpV .Eq (penV { b with k:=a.k}) (penV { b with k:=a.k})=some true:=by
        show eqV (penV { b with k:=a.k}) (penV { b with k:=a.k})=_
        rw [eq_pen,beq_self_eq_true]
      simp only [eCmp,s3,s4,this,Option.bind_eq_bind,Option.bind_some]
    have s6:sRet (eAnd (eCmp .Eq (eSlc (eVar 2) none (some (eCst (.int 2)))) (eCst (.bytes [27,91]))) (eAnd (eCmp .Eq (eSlc (eVar 2) (some (eUn .USub (eCst (.int 1)))) none) (eCst (.bytes [109]))) (eCmp .Eq (eCall F_law_seen [(eVar 0),(eCall F_law_inside [(eVar 2)])]) (eBin .Add (eSlc (eVar 1) none (some (eCst (.int 4)))) (eSlc (eVar 0) (some (eCst (.int 4))) none))))) [.val (penV a),.val (penV b),.val (.bytes t)]=some (.ret (.bool true),[.val (penV a),.val (penV b),.val (.bytes t)]):=by
      simp only [sRet,eAnd,s1,s2,s5,truV,if_true,Option.bind_eq_bind,Option.bind_some]
    rw [bCons_ret s6]
    rfl
end Mine.P
end
section
open PySem
set_option linter.unusedVariables false
namespace Mine.P
noncomputable def DeckOk (fs:List Slot):Prop:=∃ (cells:List Int) (mixed:Int),fs=[.own (cells.map .int),.val (.int mixed)]∧cells.length≤40∧0≤mixed∧mixed<2147483647
theorem small_of {m:Int} (h1:0≤m) (h2:m<2147483647):small m=true:=by
  unfold small
  exact decide_eq_true (by lia)
theorem dCons_next {f:SF} {F:St→Option (List Slot)} {st st':St} (h:f st=some (.next,st')):dCons f F st=F st':=by
  simp only [dCons,h,Option.bind_eq_bind,Option.bind_some]
theorem mix_step (a b:Slot) {m c:Int} (h1:0≤m) (h2:m<2147483647):
    (bCons (sAsg 2 (eBin .Mod (eBin .Add (eBin .Mult (eVar 2) (eCst (.int 31))) (eVar 3)) (eCst (.int 1000003)))) bNil) [a,b,.val (.int m),.val (.int c)]=some (.next,[a,b,.val (.int ((m*31+c).fmod 1000003)),.val (.int c)]):=by
  have hs:=small_of h1 h2
  have hs31:small 31=true:=rfl
  have hn:((1000003:Int)≠0)=True:=eq_true (by decide)
  simp only [hs,hs31,hn,bCons,bNil,sAsg,eCst,eVar,eBin,binV,addV,i2V,Option.bind_eq_bind,Option.bind_some,List.getElem?_cons_zero,List.getElem?_cons_succ,List.set_cons_zero,List.set_cons_succ,if_true,Bool.and_self]
theorem mix_loop (a b:Slot):∀ (cells:List Int) (m:Int) (s:Slot),0≤m→m<2147483647→
    ∃ m' s',forLoop [3] (bCons (sAsg 2 (eBin .Mod (eBin .Add (eBin .Mult (eVar 2) (eCst (.int 31))) (eVar 3)) (eCst (.int 1000003)))) bNil) (cells.map .int) [a,b,.val (.int m),s]=some (.next,[a,b,.val (.int m'),s'])∧0≤m'∧m'<2147483647
  | [],m,s,h1,h2=>⟨m,s,rfl,h1,h2⟩
  | c::cells,m,s,h1,h2=>by
    have hb:=mix_step a b (c:=c) h1 h2
    have hm1:0≤(m*31+c).fmod 1000003:=Int.fmod_nonneg_of_pos _ (by decide)
    have hm2:(m*31+c).fmod 1000003<2147483647:=Int.lt_trans (Int.fmod_lt_of_pos _ (by decide)) (by decide)
    refine x23 (mix_loop a b cells _ (.val (.int c)) hm1 hm2) ?_;intro m' s' h h3 h4
    refine ⟨m',s',?_,h3,h4⟩
    simp only [List.map_cons,forLoop_c,bindT1,List.set_cons_zero,List.set_cons_succ,Option.bind_eq_bind,Option.bind_some,hb,h]
theorem deck_of (zs:List Int) (hz:zs.length≤63):∃ fs,F_law_deck [.lst (zs.map .int)]=some fs∧DeckOk fs:=by
  have e:F_law_deck [.lst (zs.map .int)]=F_law_deck_body [.val (.lst (zs.map .int)),.unset,.unset,.unset]:=rfl
  have hzl:((zs.map V.int).length≤lim)=True:=eq_true (lim_ge (by rw [List.length_map];lia))
  have hcl:(((zs.take 40).map V.int).length≤lim)=True:=eq_true (lim_ge (by rw [List.length_map,List.length_take];lia))
  have hs40:small 40=true:=rfl
  have hcut:cut (zs.map V.int) none (some 40)=(zs.take 40).map V.int:=by
    have:=cut_to (zs.map V.int) 40
    rw [← List.map_take] at this
    exact this
  have hi:iSeq (eL (lSlc (eVar 0) none (some (eCst (.int 40))))) [.val (.lst (zs.map .int)),.unset,.unset,.unset]=some ((zs.take 40).map .int,[.val (.lst (zs.map .int)),.unset,.unset,.unset]):=by
    simp only [lSlc,hzl,hs40,hcut,hcl,iSeq,itemsV,eCst,eVar,eL,opt,smallO,Option.bind_eq_bind,Option.bind_some,List.getElem?_cons_zero,if_true,Bool.and_true,Bool.true_and,decide_true]
  have hc:=comp_map (elt:=eBin .Mod (eF1 intV (eVar 0)) (eBin .Pow (eCst (.int 10)) (eCst (.int 9)))) (g:=fun d=>match d with | .int n=> .int (n.fmod 1000000000) | d=>d) hi (by
    intro d hd
    refine x12 (List.mem_map.mp hd) ?_;intro n _ hq2;subst hq2
    rfl) (by rw [hcl];trivial)
  have hmap:((zs.take 40).map V.int).map (fun d=>match d with | .int n=> .int (n.fmod 1000000000) | d=>d)=((zs.take 40).map (fun n=>n.fmod 1000000000)).map V.int:=by
    rw [List.map_map,List.map_map];rfl
  rw [hmap] at hc
  have hlen:((zs.take 40).map (fun n=>n.fmod 1000000000)).length≤40:=by simp;lia
  generalize (zs.take 40).map (fun n=>n.fmod 1000000000)=cells at hc hlen
  refine x23 (mix_loop (.val (.lst (zs.map .int))) (.val (.lst (cells.map .int))) cells 97 .unset (by decide) (by decide)) ?_;intro m' s' h h3 h4
  have hce:((cells.map V.int).length≤lim)=True:=eq_true (lim_ge (by rw [List.length_map];lia))
  have h1:sTup true [(.v 1 (eL (lCompA (iSeq (eL (lSlc (eVar 0) none (some (eCst (.int 40)))))) [] (eBin .Mod (eF1 intV (eVar 0)) (eBin .Pow (eCst (.int 10)) (eCst (.int 9))))))),(.v 2 (eCst (.int 97)))] [.val (.lst (zs.map .int)),.unset,.unset,.unset]=some (.next,[.val (.lst (zs.map .int)),.val (.lst (cells.map .int)),.val (.int 97),.unset]):=by
    simp only [sTup,partsRun,Part.run,eL_of hc,eCst,Option.bind_eq_bind,Option.bind_some]
    rfl
  have h2:sFor [3] (iSeq (eVar 1)) (bCons (sAsg 2 (eBin .Mod (eBin .Add (eBin .Mult (eVar 2) (eCst (.int 31))) (eVar 3)) (eCst (.int 1000003)))) bNil) [.val (.lst (zs.map .int)),.val (.lst (cells.map .int)),.val (.int 97),.unset]=some (.next,[.val (.lst (zs.map .int)),.val (.lst (cells.map .int)),.val (.int m'),s']):=by
    have:iSeq (eVar 1) [.val (.lst (zs.map .int)),.val (.lst (cells.map .int)),.val (.int 97),.unset]=some (cells.map .int,[.val (.lst (zs.map .int)),.val (.lst (cells.map .int)),.val (.int 97),.unset]):=by simp only [hce,iSeq,itemsV,eVar,Option.bind_eq_bind,Option.bind_some,List.getElem?_cons_zero,List.getElem?_cons_succ,if_true]
    simp only [sFor,this,Option.bind_eq_bind,Option.bind_some]
    exact h
  refine ⟨[.own ((cells.reverse).map .int),.val (.int m')],?_,cells.reverse,m',rfl,by rw [List.length_reverse];exact hlen,h3,h4⟩
  rw [e]
  unfold F_law_deck_body
  rw [dCons_next h1,dCons_next h2]
  simp only [dLast,lRev,hce,List.map_reverse,eVar,Option.bind_eq_bind,Option.bind_some,List.getElem?_cons_zero,List.getElem?_cons_succ,if_true]
theorem draw_of {fs:List Slot} (hd:DeckOk fs) {many:Int} (hm:0<many):∃ r fs',F_law_draw fs [.int many]=some (.int r,fs')∧DeckOk fs'∧0≤r∧r<many:=by
  refine x24 hd ?_;(try clear hd);intro cells mixed hq2 h1 h2 h3;subst hq2
  have e:∀ fs,F_law_draw fs [.int many]=(F_law_draw_body (.val (.int many)::fs)).bind (fun x=>match x.1 with | .ret d=>some (d,x.2.drop 1) | .next=>some (.none,x.2.drop 1)):=fun _=>rfl
  have hmn:(many≠0)=True:=eq_true (by lia)
  have hce:((cells.map V.int).length≤lim)=True:=eq_true (lim_ge (by rw [List.length_map];lia))
  rw [e]
  unfold F_law_draw_body
  rcases List.eq_nil_or_concat cells with rfl | ⟨init,x,rfl⟩
  · have hs:=small_of h2 h3
    have hs2:small 16807=true:=rfl
    have hn:((2147483647:Int)≠0)=True:=eq_true (by decide)
    have h64:((64:Int)≠0)=True:=eq_true (by decide)
    have h64':((64:Int).natAbs<1000000000)=True:=eq_true (by decide)
    refine ⟨(((mixed*16807+29).fmod 2147483647).fdiv 64).fmod many,[.own [],.val (.int ((mixed*16807+29).fmod 2147483647))],?_,⟨[],_,rfl,by decide,Int.fmod_nonneg_of_pos _ (by decide),Int.fmod_lt_of_pos _ (by decide)⟩,Int.fmod_nonneg_of_pos _ hm,Int.fmod_lt_of_pos _ hm⟩
    have ht:tVal (eNeNil 1) [.val (.int many),.own (([]:List Int).map .int),.val (.int mixed)]=some (false,[.val (.int many),.own [],.val (.int mixed)]):=rfl
    rw [bCons_next ((sIf_false ht).trans (show bNil [.val (.int many),.own [],.val (.int mixed)]=some (.next,[.val (.int many),.own [],.val (.int mixed)]) from rfl))]
    simp only [hs,hs2,hn,h64,h64',hmn,bCons,bNil,sAsg,eCst,eVar,eBin,binV,addV,i2V,sRet,Option.bind_eq_bind,Option.bind_some,List.getElem?_cons_zero,List.getElem?_cons_succ,List.set_cons_zero,List.set_cons_succ,if_true,and_self,Bool.and_self]
    rfl
  · rw [List.concat_eq_append] at h1 hce ⊢
    have hi:init.length≤40:=by simp at h1;lia
    refine ⟨x.fmod many,[.own (init.map .int),.val (.int mixed)],?_,⟨init,mixed,rfl,hi,h2,h3⟩,Int.fmod_nonneg_of_pos _ hm,Int.fmod_lt_of_pos _ hm⟩
    have hem:((init++[x]).map V.int).isEmpty=false:=by simp
    have ht:tVal (eNeNil 1) [.val (.int many),.own ((init++[x]).map .int),.val (.int mixed)]=some (true,[.val (.int many),.own ((init++[x]).map .int),.val (.int mixed)]):=by
      simp only [tVal,eNeNil,listS,hce,hem,tVal,truV,listS,Option.bind_eq_bind,Option.bind_some,List.getElem?_cons_zero,List.getElem?_cons_succ,if_true,Bool.not_false]
    have hp:ePop 1 [.val (.int many),.own ((init++[x]).map .int),.val (.int mixed)]=some (.int x,[.val (.int many),.own (init.map .int),.val (.int mixed)]):=by
      have h1:((init++[x]).map V.int).getLast? =some (.int x):=by simp
      have h2:((init++[x]).map V.int).dropLast=init.map .int:=by simp
      simp only [ePop,List.getElem?_cons_succ,List.getElem?_cons_zero,hce,if_true,h1,h2,Option.map_some,List.set_cons_succ,List.set_cons_zero]
    have hr:sRet (eBin .Mod (ePop 1) (eVar 0)) [.val (.int many),.own ((init++[x]).map .int),.val (.int mixed)]=some (.ret (.int (x.fmod many)),[.val (.int many),.own (init.map .int),.val (.int mixed)]):=by
      simp only [hp,hmn,eVar,eBin,binV,i2V,sRet,Option.bind_eq_bind,Option.bind_some,List.getElem?_cons_zero,if_true]
    rw [bCons_ret ((sIf_true ht).trans (bCons_ret hr))]
    rfl
theorem callO_draw {k:Nat} {L fs:List Slot} (hk:L.length=k) {args:List EF} {many:Int} (ha:evs args (L++fs)=some ([.int many],L++fs)) (hm:0<many) (hd:DeckOk fs):
    ∃ r fs',eCallO k F_law_draw args (L++fs)=some (.int r,L++fs')∧DeckOk fs'∧0≤r∧r<many:=by
  refine x24 (draw_of hd hm) ?_;intro r fs' h h1 h2 h3
  refine ⟨r,fs',?_,h1,h2,h3⟩
  simp only [eCallO,ha,Option.bind_eq_bind,Option.bind_some,List.drop_left' hk,List.take_left' hk,h]
theorem comp_draw {P:V→Prop} {mid:List Slot} {elt:EF} (h:∀ s fs,DeckOk fs→∃ d fs',elt (s::mid++fs)=some (d,s::mid++fs')∧DeckOk fs'∧P d):
    ∀ (items:List V) (s:Slot) (fs:List Slot),DeckOk fs→∃ ds s' fs',compLoop [0] [] elt items (s::mid++fs)=some (ds,s'::mid++fs')∧DeckOk fs'∧ds.length=items.length∧∀ d∈ds,P d
  | [],s,fs,hd=>⟨[],s,fs,rfl,hd,rfl,fun _ m=>nomatch m⟩
  | i::items,s,fs,hd=>by
    refine x23 (h (.val i) fs hd) ?_;intro d fs1 h1 h2 h3
    refine x34 (comp_draw h items (.val i) fs1 h2) ?_;intro ds s' fs' h4 h5 h6 h7
    refine ⟨d::ds,s',fs',?_,h5,by rw [List.length_cons,List.length_cons,h6],fun x hx=> ?_⟩
    · simp only [List.cons_append] at h1 h4 ⊢
      simp only [compLoop_c,bindT1,tests,List.set_cons_zero,Option.bind_eq_bind,Option.bind_some,if_true,h1,h4]
    · rcases List.mem_cons.mp hx with rfl | hx
      · exact h3
      · exact h7 x hx
theorem range_len (n:Nat):((List.range n).map fun (k:Nat)=>V.int k).length=n:=by simp
noncomputable def someV:V:= .tup [.int (-1),.int 0,.int 12,.int 200,.int 16843267]
theorem some_idx {r:Int} (h1:0≤r) (h2:r<5):∃ c,idxV someV (.int r)=some (.int c)∧Col c:=by
  obtain ⟨n,rfl⟩:∃ n:Nat,r=(n:Int):=⟨r.toNat,by lia⟩
  have:n=0∨n=1∨n=2∨n=3∨n=4:=by lia
  rcases this with rfl | rfl | rfl | rfl | rfl
  · exact ⟨-1,rfl,.inl rfl⟩
  · exact ⟨0,rfl,.inr (.inl (by decide))⟩
  · exact ⟨12,rfl,.inr (.inl (by decide))⟩
  · exact ⟨200,rfl,.inr (.inl (by decide))⟩
  · exact ⟨16843267,rfl,.inr (.inr (by decide))⟩
theorem look_of {fs:List Slot} (hd:DeckOk fs):∃ p fs',F_law_look fs []=some (penV p,fs')∧WF p∧DeckOk fs':=by
  have e:F_law_look fs []=(F_law_look_body ([.unset,.unset]++fs)).bind (fun x=>match x.1 with | .ret d=>some (d,x.2.drop 2) | .next=>some (.none,x.2.drop 2)):=rfl
  have h1:eTup [(eUn .USub (eCst (.int 1))),(eCst (.int 0)),(eCst (.int 12)),(eCst (.int 200)),(eBin .Add (eCst (.int 16777216)) (eCst (.int 66051)))] ([.unset,.unset]++fs)=some (someV,[.unset,.unset]++fs):=rfl
  have helt:∀ s fs,DeckOk fs→∃ d fs',eIdx (eVar 1) (eCallO 2 F_law_draw [(eF1 lenV (eVar 1))]) (s::[.val someV]++fs)=some (d,s::[.val someV]++fs')∧DeckOk fs'∧∃ c,d= .int c∧Col c:=by
    intro s fs hd
    refine x24 (callO_draw (k:=2) (L:=[s,.val someV]) (fs:=fs) rfl (args:=[(eF1 lenV (eVar 1))]) (many:=5) rfl (by decide) hd) ?_;intro r fs' h2 h3 h4 h5
    refine x12 (some_idx h4 h5) ?_;intro c h6 h7
    exact ⟨.int c,fs',eIdx_of (st1:=s::[.val someV]++fs) rfl h2 h6,h3,c,rfl,h7⟩
  refine x34 (comp_draw (P:=fun d=>∃ c,d= .int c∧Col c) helt ((List.range 3).map fun (k:Nat)=>V.int k) .unset fs hd) ?_;intro ds s' fs1 hc hd1 hl hall
  rw [range_len] at hl
  obtain ⟨x,y,z,rfl⟩:∃ x y z,ds=[x,y,z]:=by
    match ds,hl with
    | [x,y,z],_=>exact ⟨x,y,z,rfl⟩
  refine x12 (hall x (.head _)) ?_;intro x hq1 hx;subst hq1
  refine x12 (hall y (.tail _ (.head _))) ?_;intro y hq1 hy;subst hq1
  refine x12 (hall z (.tail _ (.tail _ (.head _)))) ?_;intro z hq1 hz;subst hq1
  have h2:eL (lComp 2 1 [0] (iRange (eCst (.int 3))) [] (eIdx (eVar 1) (eCallO 2 F_law_draw [(eF1 lenV (eVar 1))]))) ([.val someV,.unset]++fs)=some (.lst [.int x,.int y,.int z],[.val someV,.unset]++fs1):=by
    have hr:iRange (eCst (.int 3)) ([.val someV,.unset]++fs)=some ((List.range 3).map fun (k:Nat)=>V.int k,[.val someV,.unset]++fs):=rfl
    have hf:freeS ([.val someV,.unset]++fs) [0]=some [.val someV]:=rfl
    have hl3:([V.int x,V.int y,V.int z].length≤lim)=True:=eq_true (lim_ge (show 3≤1000000 by decide))
    have hst:List.replicate 1 Slot.unset++[.val someV]++List.drop 2 ([.val someV,.unset]++fs)= .unset::[.val someV]++fs:=rfl
    simp only [eL,lComp,hr,hf,Option.bind_eq_bind,Option.bind_some,hst,show List.range 1=[0] from rfl,hc,hl3,if_true]
    rfl
  refine x24 (callO_draw (k:=2) (L:=[.val someV,.val (.lst [.int x,.int y,.int z])]) (fs:=fs1) rfl (args:=[(eCst (.int 512))]) (many:=512) rfl (by decide) hd1) ?_;intro r1 fs2 k1 hd2 a1 b1
  refine x24 (callO_draw (k:=2) (L:=[.val someV,.val (.lst [.int x,.int y,.int z])]) (fs:=fs2) rfl (args:=[(eCst (.int 6))]) (many:=6) rfl (by decide) hd2) ?_;intro r2 fs3 k2 hd3 a2 b2
  refine x24 (callO_draw (k:=2) (L:=[.val someV,.val (.lst [.int x,.int y,.int z])]) (fs:=fs3) rfl (args:=[(eCst (.int 3))]) (many:=3) rfl (by decide) hd3) ?_;intro r3 fs4 k3 hd4 a3 b3
  obtain ⟨n1,rfl⟩:∃ n:Nat,r1=(n:Int):=⟨r1.toNat,by lia⟩
  obtain ⟨n2,rfl⟩:∃ n:Nat,r2=(n:Int):=⟨r2.toNat,by lia⟩
  refine ⟨⟨n1,n2,x,y,z,r3⟩,fs4,?_,⟨by show n1<512;lia,by show n2<6;lia,hx,hy,hz⟩,hd4⟩
  have hs1:small 512=true:=rfl
  have hs2:small (n2:Int)=true:=small_of a2 (by lia)
  have g:∀ (st:List Slot) (j:Nat) (d:V),idxV (.lst [.int x,.int y,.int z]) (.int (j:Int))=some d→eIdx (eVar 1) (eCst (.int (j:Int))) ([.val someV,.val (.lst [.int x,.int y,.int z])]++st)=some (d,[.val someV,.val (.lst [.int x,.int y,.int z])]++st):=fun st j d h=>eIdx_of rfl rfl h
  have g0:=g fs3 0 (.int x) rfl
  have g1:=g fs3 1 (.int y) rfl
  have g2:=g fs3 2 (.int z) rfl
  have hb:eBin .Add (eCallO 2 F_law_draw [(eCst (.int 512))]) (eBin .Mult (eCst (.int 512)) (eCallO 2 F_law_draw [(eCst (.int 6))])) ([.val someV,.val (.lst [.int x,.int y,.int z])]++fs1)=some (.int ((n1:Int)+512*(n2:Int)),[.val someV,.val (.lst [.int x,.int y,.int z])]++fs3):=by
    simp only [eBin,k1,eCst,k2,binV,addV,i2V,hs1,hs2,Bool.and_self,if_true,Option.bind_eq_bind,Option.bind_some]
  rw [e]
  unfold F_law_look_body
  rw [bCons_asg h1]
  rw [show (([.unset,.unset]++fs:List Slot).set 0 (.val someV))=[.val someV,.unset]++fs from rfl,bCons_asg h2]
  rw [show (([.val someV,.unset]++fs1:List Slot).set 1 (.val (.lst [.int x,.int y,.int z])))=[.val someV,.val (.lst [.int x,.int y,.int z])]++fs1 from rfl]
  have hret:sRet (eTup [(eBin .Add (eCallO 2 F_law_draw [(eCst (.int 512))]) (eBin .Mult (eCst (.int 512)) (eCallO 2 F_law_draw [(eCst (.int 6))]))),(eIdx (eVar 1) (eCst (.int 0))),(eIdx (eVar 1) (eCst (.int 1))),(eIdx (eVar 1) (eCst (.int 2))),(eCallO 2 F_law_draw [(eCst (.int 3))])]) ([.val someV,.val (.lst [.int x,.int y,.int z])]++fs1)=some (.ret (penV ⟨n1,n2,x,y,z,r3⟩),[.val someV,.val (.lst [.int x,.int y,.int z])]++fs4):=by
    have g0':eIdx (eVar 1) (eCst (.int 0)) ([.val someV,.val (.lst [.int x,.int y,.int z])]++fs3)=_:=g0
    have g1':eIdx (eVar 1) (eCst (.int 1)) ([.val someV,.val (.lst [.int x,.int y,.int z])]++fs3)=_:=g1
    have g2':eIdx (eVar 1) (eCst (.int 2)) ([.val someV,.val (.lst [.int x,.int y,.int z])]++fs3)=_:=g2
    simp only [sRet,eTup,evs,hb,g0',g1',g2',k3,Option.bind_eq_bind,Option.bind_some]
    rfl
  rw [bCons_ret hret]
  rfl
end Mine.P
end
section
open PySem
set_option linter.unusedVariables false
namespace Mine.P
theorem take_drop_ne {α:Type} {l:List α} {h:Nat} (h1:0<h) (h2:h<l.length):l.take h≠[]∧l.drop h≠[]:=by
  constructor
  · intro e
    have:=congrArg List.length e
    rw [List.length_take] at this
    simp only [List.length_nil] at this
    lia
  · intro e
    have:=congrArg List.length e
    rw [List.length_drop] at this
    simp only [List.length_nil] at this
    lia
theorem Pieces.sub {ps qs:List (List UInt8)} (h:Pieces ps) (hs:∀ x∈qs,x∈ps):Pieces qs:=⟨fun b hb=>h.all b (hs b hb)⟩
theorem join_good {ps:List (List UInt8)} (h:Pieces ps) (h0:ps≠[]):∀ r∈allRows (joinB [59] ps),GoodRow r:=by
  rw [rows_join ps h0];exact h.good
theorem split_eff {ps:List (List UInt8)} (h:Pieces ps) {half:Nat} (h1:0<half) (h2:half<ps.length) (hc:((joinB [59] ps).filter (· ==59)).length<32) (a:Pen):
    eff (joinB [59] ps) a=eff (joinB [59] (ps.drop half)) (eff (joinB [59] (ps.take half)) a):=by
  refine x02 (take_drop_ne h1 h2) ?_;intro ht hd
  have hA:Pieces (ps.take half):=h.sub fun x m=>List.mem_of_mem_take m
  have hB:Pieces (ps.drop half):=h.sub fun x m=>List.mem_of_mem_drop m
  have hj:=join_app 59 (ps.take half) (ps.drop half) ht hd
  rw [List.take_append_drop] at hj
  have hr:allRows (joinB [59] ps)=allRows (joinB [59] (ps.take half))++allRows (joinB [59] (ps.drop half)):=by rw [hj,rows_app]
  have hl:(allRows (joinB [59] ps)).length≤32:=by
    unfold allRows
    rw [List.length_map,split_count,keep_id h.kept]
    lia
  have hl':=hl
  rw [hr,List.length_append] at hl'
  have cl:Closed (allRows (joinB [59] (ps.take half))):=by rw [rows_join _ ht];exact hA.closed
  have e:∀ o,(allRows o).length≤32→∀ p,eff o p=runF (allRows o) p:=fun o ho p=>by unfold eff lawRows;rw [List.take_of_length_le ho]
  rw [e _ hl,e (joinB [59] (ps.take half)) (by lia),e (joinB [59] (ps.drop half)) (by lia),hr,cl]
theorem tail_good {oct t:List UInt8} (hg:∀ r∈allRows oct,GoodRow r) (ht:t∈tails):(∀ r∈allRows (oct++t),GoodRow r)∧t.length≤31:=by
  have:=List.all_eq_true.mp tail_all t ht
  unfold tailChk at this
  split at this
  · rw [List.append_nil];exact ⟨hg,by simp⟩
  · rename_i c t'
    simp only [Bool.and_eq_true,beq_iff_eq,decide_eq_true_eq] at this
    obtain ⟨⟨⟨rfl,h2⟩,h3⟩,h4⟩:=this
    rw [rows_app]
    refine ⟨fun r hr=> ?_,by simp;lia⟩
    rcases List.mem_append.mp hr with hr | hr
    · exact hg r hr
    · exact goodB_of (List.all_eq_true.mp h2 r hr)
theorem sign_facts {s:List UInt8} (h:s∈signs):keep s=[]∧s.length≤1:=by
  have:=List.all_eq_true.mp sign_all s h
  refine x02 (Bool.and_eq_true_iff.mp this) ?_;intro h1 h2
  exact ⟨List.isEmpty_iff.mp h1,of_decide_eq_true h2⟩
theorem keep_sign (oct s:List UInt8) (at_:Nat) (h:keep s=[]):keep (oct.take at_++s++oct.drop at_)=keep oct:=by
  rw [keep_app,keep_app,h,List.append_nil,← keep_app,List.take_append_drop]
theorem same_rows {x y:List UInt8} (h:keep x=keep y):allRows x=allRows y∧readRows x=readRows y:=by
  have:allRows x=allRows y:=by unfold allRows;rw [h]
  refine ⟨this,?_⟩
  unfold readRows lawRows
  rw [h,this]
theorem again {oct:List UInt8} (hg:∀ r∈allRows oct,GoodRow r):Printable (readRows oct)∧(readRows oct).length≤32∧(∀ r∈readRows oct,GoodRow r):=by
  have hsub:∀ r∈readRows oct,r∈allRows oct:=fun r hr=>by
    unfold readRows at hr
    split at hr
    · cases hr
    · exact List.mem_of_mem_take hr
  have hl:(readRows oct).length≤32:=by
    unfold readRows
    split
    · simp
    · unfold lawRows;rw [List.length_take];lia
  exact ⟨⟨fun r hr=>(good_facts (hg r (hsub r hr))).1,fun r hr=>(good_facts (hg r (hsub r hr))).2,fun r hr=>rows_val oct r (hsub r hr),by lia⟩,hl,fun r hr=>hg r (hsub r hr)⟩
theorem again_eff {oct:List UInt8} (hg:∀ r∈allRows oct,GoodRow r) (p:Pen):eff (prt (readRows oct)) p=eff oct p:=by
  refine x03 (again hg) ?_;intro h1 h2 h3
  unfold eff
  rw [prt_rows h1 h2,rows0_read]
noncomputable abbrev S11 (s0 s1 s2 s3 s4 s5 s6 s7 s8 s9 s10:Slot):List Slot:=[s0,s1,s2,s3,s4,s5,s6,s7,s8,s9,s10]
noncomputable abbrev psV (ps:List (List UInt8)):V:= .lst (ps.map V.bytes)
theorem pieces_eq:G_law_pieces= .tup (pieces.map V.bytes):=by kernel_rfl
theorem pieces_len:pieces.length=54:=by kernel_rfl
theorem piece_idx {r:Int} (h1:0≤r) (h2:r<54):∃ b,idxV G_law_pieces (.int r)=some (.bytes b)∧b∈pieces:=by
  have hl:r.toNat<pieces.length:=by rw [pieces_len];lia
  refine ⟨pieces[r.toNat],?_,List.getElem_mem hl⟩
  rw [pieces_eq]
  show (if 0≤r∧(pieces.map V.bytes).length≤lim then (pieces.map V.bytes)[r.toNat]? else none)=_
  rw [if_pos ⟨h1,lim_ge (by rw [List.length_map,pieces_len];decide)⟩,List.getElem?_map,List.getElem?_eq_getElem hl]
  rfl
section
variable (s0 s1 s2 s3 s4 s5 s6 s7 s8 s9 s10:Slot)
theorem step1 {fs:List Slot} (hd:DeckOk fs):∃ ps fs',sAsg 1 (eL (lComp 11 1 [] (iRange (eBin .Add (eCst (.int 1)) (eCallO 11 F_law_draw [(eCst (.int 9))]))) [] (eIdx (eCst G_law_pieces) (eCallO 1 F_law_draw [(eF1 lenV (eCst G_law_pieces))])))) (S11 s0 s1 s2 s3 s4 s5 s6 s7 s8 s9 s10++fs)=
    some (.next,S11 s0 (.val (psV ps)) s2 s3 s4 s5 s6 s7 s8 s9 s10++fs')∧DeckOk fs'∧Pieces ps∧1≤ps.length∧ps.length≤9:=by
  refine x24 (callO_draw (k:=11) (L:=S11 s0 s1 s2 s3 s4 s5 s6 s7 s8 s9 s10) (fs:=fs) rfl (args:=[(eCst (.int 9))]) (many:=9) rfl (by decide) hd) ?_;intro r fs1 h1 hd1 a1 b1
  obtain ⟨n,rfl⟩:∃ n:Nat,r=(n:Int):=⟨r.toNat,by lia⟩
  have helt:∀ s fs,DeckOk fs→∃ d fs',eIdx (eCst G_law_pieces) (eCallO 1 F_law_draw [(eF1 lenV (eCst G_law_pieces))]) (s::[]++fs)=some (d,s::[]++fs')∧DeckOk fs'∧∃ b,d= .bytes b∧b∈pieces:=by
    intro s fs hd
    obtain ⟨r,fs',h2,h3,h4,h5⟩:=callO_draw (k:=1) (L:=[s]) (fs:=fs) rfl (args:=[(eF1 lenV (eCst G_law_pieces))]) (many:=54) (by
      have:lenV G_law_pieces=some (.int 54):=by kernel_rfl
      simp only [evs,eF1,eCst,this,Option.bind_eq_bind,Option.bind_some]) (by decide) hd
    refine x12 (piece_idx h4 h5) ?_;intro b h6 h7
    exact ⟨.bytes b,fs',eIdx_of (st1:=s::[]++fs) rfl h2 h6,h3,b,rfl,h7⟩
  refine x34 (comp_draw (P:=fun d=>∃ b,d= .bytes b∧b∈pieces) helt ((List.range (1+n)).map fun (k:Nat)=>V.int k) .unset fs1 hd1) ?_;intro ds s' fs2 hc hd2 hl hall
  rw [range_len] at hl
  have hps:∃ ps:List (List UInt8),ds=ps.map V.bytes∧∀ b∈ps,b∈pieces:=by
    clear hc hl
    induction ds with
    | nil=>exact ⟨[],rfl,fun _ m=>nomatch m⟩
    | cons d ds ih=>
      refine x12 (ih fun d m=>hall d (.tail _ m)) ?_;intro ps h3 h4
      refine x12 (hall d (.head _)) ?_;intro b h5 h6
      refine ⟨b::ps,by rw [h5,h3];rfl,fun x hx=> ?_⟩
      rcases List.mem_cons.mp hx with rfl | hx
      · exact h6
      · exact h4 x hx
  refine x12 hps ?_;(try clear hps);intro ps hq1 hp;subst hq1
  rw [List.length_map] at hl
  refine ⟨ps,fs2,?_,hd2,⟨fun b hb=>piece_of (hp b hb)⟩,by lia,by lia⟩
  have hr:iRange (eBin .Add (eCst (.int 1)) (eCallO 11 F_law_draw [(eCst (.int 9))])) (S11 s0 s1 s2 s3 s4 s5 s6 s7 s8 s9 s10++fs)=some ((List.range (1+n)).map fun (k:Nat)=>V.int k,S11 s0 s1 s2 s3 s4 s5 s6 s7 s8 s9 s10++fs1):=by
    have hg:((0:Int)≤1+(n:Int)∧1+(n:Int)≤(lim:Int))=True:=eq_true ⟨by lia,by unfold lim;lia⟩
    have ht:(1+(n:Int)).toNat=1+n:=by lia
    simp only [iRange,eBin,eCst,h1,binV,addV,hg,ht,if_true,Option.bind_eq_bind,Option.bind_some]
  have hl3:((ps.map V.bytes).length≤lim)=True:=eq_true (lim_ge (by rw [List.length_map];lia))
  have hst:List.replicate 1 Slot.unset++[]++List.drop 11 (S11 s0 s1 s2 s3 s4 s5 s6 s7 s8 s9 s10++fs1)= .unset::[]++fs1:=rfl
  simp only [sAsg,eL,lComp,hr,freeS,Option.bind_eq_bind,Option.bind_some,hst,show List.range 1=[0] from rfl,hc,hl3,if_true]
  rfl
theorem callO_look {fs:List Slot} (hd:DeckOk fs) {L:List Slot} (hL:L.length=11):∃ p fs',eCallO 11 F_law_look [] (L++fs)=some (penV p,L++fs')∧WF p∧DeckOk fs':=by
  refine x23 (look_of hd) ?_;intro p fs' h w hd'
  refine ⟨p,fs',?_,w,hd'⟩
  simp only [eCallO,evs,Option.bind_eq_bind,Option.bind_some,List.drop_left' hL,List.take_left' hL,h]
theorem step2 {fs:List Slot} (hd:DeckOk fs):∃ a b fs',sTup true [(.v 2 (eCallO 11 F_law_look [])),(.v 3 (eCallO 11 F_law_look []))] (S11 s0 s1 s2 s3 s4 s5 s6 s7 s8 s9 s10++fs)=
    some (.next,S11 s0 s1 (.val (penV a)) (.val (penV b)) s4 s5 s6 s7 s8 s9 s10++fs')∧DeckOk fs'∧WF a∧WF b:=by
  refine x23 (callO_look (L:=S11 s0 s1 s2 s3 s4 s5 s6 s7 s8 s9 s10) hd rfl) ?_;intro a fs1 h1 w1 hd1
  refine x23 (callO_look (L:=S11 s0 s1 s2 s3 s4 s5 s6 s7 s8 s9 s10) hd1 rfl) ?_;intro b fs2 h2 w2 hd2
  refine ⟨a,b,fs2,?_,hd2,w1,w2⟩
  simp only [sTup,partsRun,Part.run,h1,h2,Option.bind_eq_bind,Option.bind_some]
  rfl
theorem step3 {fs:List Slot} (hd:DeckOk fs) {ps:List (List UInt8)} (hp:Pieces ps) (h1:1≤ps.length) (h9:ps.length≤9):
    ∃ qs fs',sIf (tCmp .Eq (eCallO 11 F_law_draw [(eCst (.int 6))]) (eCst (.int 5))) (bCons (sAsg 1 (eL (lAdd (eL (lMul (eL (lDisp [(eIdx (eVar 1) (eCst (.int 0)))])) (eCst (.int 34)))) (eVar 1)))) bNil) bNil (S11 s0 (.val (psV ps)) s2 s3 s4 s5 s6 s7 s8 s9 s10++fs)=
    some (.next,S11 s0 (.val (psV qs)) s2 s3 s4 s5 s6 s7 s8 s9 s10++fs')∧DeckOk fs'∧Pieces qs∧1≤qs.length∧qs.length≤43:=by
  refine x24 (callO_draw (k:=11) (L:=S11 s0 (.val (psV ps)) s2 s3 s4 s5 s6 s7 s8 s9 s10) (fs:=fs) rfl (args:=[(eCst (.int 6))]) (many:=6) rfl (by decide) hd) ?_;intro r fs1 h2 hd1 a1 b1
  have ht:tCmp .Eq (eCallO 11 F_law_draw [(eCst (.int 6))]) (eCst (.int 5)) (S11 s0 (.val (psV ps)) s2 s3 s4 s5 s6 s7 s8 s9 s10++fs)=some (r==5,S11 s0 (.val (psV ps)) s2 s3 s4 s5 s6 s7 s8 s9 s10++fs1):=tCmp_of h2 rfl rfl
  cases hr:(r==5) with
  | false=>
    rw [hr] at ht
    exact ⟨ps,fs1,(sIf_false ht).trans rfl,hd1,hp,h1,by lia⟩
  | true=>
    rw [hr] at ht
    obtain ⟨b,t,rfl⟩:∃ b t,ps=b::t:=by
      induction ps using List.casesOn with
      | nil=>simp at h1
      | cons b t=>exact ⟨b,t,rfl⟩
    refine ⟨List.replicate 34 b++b::t,fs1,(sIf_true ht).trans ?_,hd1,⟨fun x hx=> ?_⟩,by simp,by simp at h9 ⊢;lia⟩
    · have hl:(((b::t).map V.bytes).length≤lim)=True:=eq_true (lim_ge (by rw [List.length_map];lia))
      have hx:eIdx (eVar 1) (eCst (.int 0)) (S11 s0 (.val (psV (b::t))) s2 s3 s4 s5 s6 s7 s8 s9 s10++fs1)=some (.bytes b,S11 s0 (.val (psV (b::t))) s2 s3 s4 s5 s6 s7 s8 s9 s10++fs1):=
        eIdx_of rfl rfl (by show (if (0:Int)≤0∧((b::t).map V.bytes).length≤lim then ((b::t).map V.bytes)[(0:Int).toNat]? else none)=_;exact (if_pos ⟨Int.le_refl _,of_eq_true hl⟩).trans rfl)
      have hm:eL (lMul (eL (lDisp [(eIdx (eVar 1) (eCst (.int 0)))])) (eCst (.int 34))) (S11 s0 (.val (psV (b::t))) s2 s3 s4 s5 s6 s7 s8 s9 s10++fs1)=some (psV (List.replicate 34 b),S11 s0 (.val (psV (b::t))) s2 s3 s4 s5 s6 s7 s8 s9 s10++fs1):=by
        simp only [eL,lMul,lDisp,evs,hx,eCst,Option.bind_eq_bind,Option.bind_some]
        rfl
      have hadd:eL (lAdd (eL (lMul (eL (lDisp [(eIdx (eVar 1) (eCst (.int 0)))])) (eCst (.int 34)))) (eVar 1)) (S11 s0 (.val (psV (b::t))) s2 s3 s4 s5 s6 s7 s8 s9 s10++fs1)=some (psV (List.replicate 34 b++b::t),S11 s0 (.val (psV (b::t))) s2 s3 s4 s5 s6 s7 s8 s9 s10++fs1):=by
        have hv:eVar 1 (S11 s0 (.val (psV (b::t))) s2 s3 s4 s5 s6 s7 s8 s9 s10++fs1)=some (psV (b::t),S11 s0 (.val (psV (b::t))) s2 s3 s4 s5 s6 s7 s8 s9 s10++fs1):=rfl
        have hl2:(((List.replicate 34 b).map V.bytes).length+((b::t).map V.bytes).length≤lim)=True:=eq_true (lim_ge (by rw [List.length_map,List.length_map,List.length_replicate];lia))
        rw [eL,lAdd,hm]
        simp only [hv,hl2,if_true,Option.bind_eq_bind,Option.bind_some,psV,List.map_append]
      rw [bCons_asg hadd]
      rfl
    · rcases List.mem_append.mp hx with hx | hx
      · rw [List.eq_of_mem_replicate hx];exact hp.all b (.head _)
      · exact hp.all x hx
theorem ps_len {ps:List (List UInt8)} (h:ps.length≤43):lenV (psV ps)=some (.int (ps.length:Int)):=by
  have:(ps.length≤lim)=True:=eq_true (lim_ge (by lia))
  simp only [lenV,List.length_map,this,if_true]
theorem step4 {fs:List Slot} (hd:DeckOk fs) {ps:List (List UInt8)} (hl:ps.length≤43):
    ∃ (half:Nat) (fs':List Slot),sAsg 4 (eCallO 11 F_law_draw [(eBin .Add (eF1 lenV (eVar 1)) (eCst (.int 1)))]) (S11 s0 (.val (psV ps)) s2 s3 s4 s5 s6 s7 s8 s9 s10++fs)=
    some (.next,S11 s0 (.val (psV ps)) s2 s3 (.val (.int (half:Int))) s5 s6 s7 s8 s9 s10++fs')∧DeckOk fs'∧half≤ps.length:=by
  have hn:eF1 lenV (eVar 1) (S11 s0 (.val (psV ps)) s2 s3 s4 s5 s6 s7 s8 s9 s10++fs)=some (.int (ps.length:Int),S11 s0 (.val (psV ps)) s2 s3 s4 s5 s6 s7 s8 s9 s10++fs):=eF1_of rfl (ps_len hl)
  obtain ⟨r,fs1,h1,hd1,a1,b1⟩:=callO_draw (k:=11) (L:=S11 s0 (.val (psV ps)) s2 s3 s4 s5 s6 s7 s8 s9 s10) (fs:=fs) rfl (args:=[(eBin .Add (eF1 lenV (eVar 1)) (eCst (.int 1)))]) (many:=(ps.length:Int)+1) (by
    simp only [evs,eBin,hn,eCst,binV,addV,Option.bind_eq_bind,Option.bind_some]) (by lia) hd
  obtain ⟨n,rfl⟩:∃ n:Nat,r=(n:Int):=⟨r.toNat,by lia⟩
  refine ⟨n,fs1,?_,hd1,by lia⟩
  simp only [sAsg,h1,Option.bind_eq_bind,Option.bind_some]
  rfl
theorem join_of {ps:List (List UInt8)} (h:Pieces ps) (hl:ps.length≤43):joinV (.bytes [59]) (psV ps)=some (.bytes (joinB [59] ps))∧(joinB [59] ps).length≤1333:=by
  have:=h.len
  refine ⟨joinV_of (lim_ge (by lia)) (lim_ge (by lia)),by lia⟩
theorem step5 {fs:List Slot} {ps:List (List UInt8)} (h:Pieces ps) (hl:ps.length≤43):sAsg 5 (eF2 joinV (eCst (.bytes [59])) (eVar 1)) (S11 s0 (.val (psV ps)) s2 s3 s4 s5 s6 s7 s8 s9 s10++fs)=some (.next,S11 s0 (.val (psV ps)) s2 s3 s4 (.val (.bytes (joinB [59] ps))) s6 s7 s8 s9 s10++fs):=by
  have hv:eVar 1 (S11 s0 (.val (psV ps)) s2 s3 s4 s5 s6 s7 s8 s9 s10++fs)=some (psV ps,S11 s0 (.val (psV ps)) s2 s3 s4 s5 s6 s7 s8 s9 s10++fs):=rfl
  simp only [sAsg,eF2,eCst,hv,(join_of h hl).1,Option.bind_eq_bind,Option.bind_some]
  rfl
end
end Mine.P
end
section
open PySem
set_option linter.unusedVariables false
namespace Mine.P
theorem eF2_of {f:V→V→Option V} {a b:EF} {st st1 st2:St} {x y r:V} (h1:a st=some (x,st1)) (h2:b st1=some (y,st2)) (h3:f x y=some r):eF2 f a b st=some (r,st2):=by
  simp only [eF2,h1,h2,h3,Option.bind_eq_bind,Option.bind_some]
theorem tAnd_true {a b:TF} {st st':St} (h:a st=some (true,st')):tAnd a b st=b st':=by
  simp only [tAnd,h,Option.bind_eq_bind,Option.bind_some,if_true]
theorem tAnd_false {a b:TF} {st st':St} (h:a st=some (false,st')):tAnd a b st=some (false,st'):=by
  simp only [tAnd,h,Option.bind_eq_bind,Option.bind_some,Bool.false_eq_true,if_false]
theorem tOr_false {a b:TF} {st st':St} (h:a st=some (false,st')):tOr a b st=b st':=by
  simp only [tOr,h,Option.bind_eq_bind,Option.bind_some,Bool.false_eq_true,if_false]
theorem ne_pen (p:Pen):cmpV .NotEq (penV p) (penV p)=some false:=by
  show (eqV (penV p) (penV p)).map (!·)=_
  rw [eq_pen,beq_self_eq_true];rfl
theorem cmp_lti (a b:Int):cmpV .Lt (.int a) (.int b)=some (decide (a<b)):=rfl
section
variable (s0 s1 s2 s3 s4 s5 s6 s7 s8 s9 s10:Slot)
noncomputable def split6:SF:=sIf (tAnd (tCmp .Lt (eF2 countV (eVar 5) (eCst (.bytes [59]))) (eCst (.int 32))) (tCmp2 .Lt .Lt (eCst (.int 0)) (eVar 4) (eF1 lenV (eVar 1)))) (bCons (sAsg 6 (eCall F_apply_sgr [(eVar 2),(eCall F_read_params [(eF2 joinV (eCst (.bytes [59])) (eL (lSlc (eVar 1) none (some (eVar 4)))))])]))
  (bCons (sIf (tCmp .NotEq (eCall F_apply_sgr [(eVar 6),(eCall F_read_params [(eF2 joinV (eCst (.bytes [59])) (eL (lSlc (eVar 1) (some (eVar 4)) none)))])]) (eCall F_apply_sgr [(eVar 2),(eCall F_read_params [(eVar 5)])])) (bCons (sRet (eCst (.bool false)))
  bNil) bNil)
  bNil)) bNil
theorem step6 {fs:List Slot} {ps:List (List UInt8)} (hp:Pieces ps) (h1:1≤ps.length) (hl:ps.length≤43) {a:Pen} (wa:WF a) {half:Nat} (hh:half≤ps.length):
    ∃ t6,split6 (S11 s0 (.val (psV ps)) (.val (penV a)) s3 (.val (.int (half:Int))) (.val (.bytes (joinB [59] ps))) s6 s7 s8 s9 s10++fs)=some (.next,S11 s0 (.val (psV ps)) (.val (penV a)) s3 (.val (.int (half:Int))) (.val (.bytes (joinB [59] ps))) t6 s7 s8 s9 s10++fs):=by
  have hne:ps≠[]:=fun e=>by rw [e] at h1;simp at h1
  refine x02 (join_of hp hl) ?_;intro hj hjl
  have hgood:=join_good hp hne
  have hc:eF2 countV (eVar 5) (eCst (.bytes [59])) (S11 s0 (.val (psV ps)) (.val (penV a)) s3 (.val (.int (half:Int))) (.val (.bytes (joinB [59] ps))) s6 s7 s8 s9 s10++fs)=some (.int ((((joinB [59] ps).filter (· ==59)).length:Nat):Int),S11 s0 (.val (psV ps)) (.val (penV a)) s3 (.val (.int (half:Int))) (.val (.bytes (joinB [59] ps))) s6 s7 s8 s9 s10++fs):=by
    refine eF2_of (x:= .bytes (joinB [59] ps)) rfl rfl ?_
    exact if_pos (lim_ge (by lia))
  have ht1:=tCmp_of (op:= .Lt) (e2:=eCst (.int 32)) (y:= .int 32) hc rfl (cmp_lti _ _)
  unfold split6
  by_cases h32:((joinB [59] ps).filter (· ==59)).length<32
  · rw [decide_eq_true (by lia:(((((joinB [59] ps).filter (· ==59)).length:Nat):Int)<32))] at ht1
    have hn:eF1 lenV (eVar 1) (S11 s0 (.val (psV ps)) (.val (penV a)) s3 (.val (.int (half:Int))) (.val (.bytes (joinB [59] ps))) s6 s7 s8 s9 s10++fs)=some (.int (ps.length:Int),S11 s0 (.val (psV ps)) (.val (penV a)) s3 (.val (.int (half:Int))) (.val (.bytes (joinB [59] ps))) s6 s7 s8 s9 s10++fs):=eF1_of rfl (ps_len hl)
    have hv4:eVar 4 (S11 s0 (.val (psV ps)) (.val (penV a)) s3 (.val (.int (half:Int))) (.val (.bytes (joinB [59] ps))) s6 s7 s8 s9 s10++fs)=some (.int (half:Int),S11 s0 (.val (psV ps)) (.val (penV a)) s3 (.val (.int (half:Int))) (.val (.bytes (joinB [59] ps))) s6 s7 s8 s9 s10++fs):=rfl
    have ht2:tCmp2 .Lt .Lt (eCst (.int 0)) (eVar 4) (eF1 lenV (eVar 1)) (S11 s0 (.val (psV ps)) (.val (penV a)) s3 (.val (.int (half:Int))) (.val (.bytes (joinB [59] ps))) s6 s7 s8 s9 s10++fs)=some (decide (0<half∧half<ps.length),S11 s0 (.val (psV ps)) (.val (penV a)) s3 (.val (.int (half:Int))) (.val (.bytes (joinB [59] ps))) s6 s7 s8 s9 s10++fs):=by
      by_cases q1:0<half
      · have d1:decide ((0:Int)<(half:Int))=true:=decide_eq_true (by lia)
        have d2:decide ((half:Int)<(ps.length:Int))=decide (0<half∧half<ps.length):=decide_eq_decide.mpr ⟨fun q=>⟨q1,by lia⟩,fun q=>by lia⟩
        simp only [tCmp2,eCst,hv4,cmp_lti,d1,hn,d2,if_true,Option.bind_eq_bind,Option.bind_some]
      · have d1:decide ((0:Int)<(half:Int))=false:=decide_eq_false (by lia)
        have d2:decide (0<half∧half<ps.length)=false:=decide_eq_false fun q=>q1 q.1
        simp only [tCmp2,eCst,hv4,cmp_lti,d1,d2,Bool.false_eq_true,if_false,Option.bind_eq_bind,Option.bind_some]
    by_cases hq:0<half∧half<ps.length
    · rw [decide_eq_true hq] at ht2
      refine ⟨.val (penV (eff (joinB [59] (ps.take half)) a)),?_⟩
      refine (sIf_true ((tAnd_true ht1).trans ht2)).trans ?_
      have hA:Pieces (ps.take half):=hp.sub fun x m=>List.mem_of_mem_take m
      have hB:Pieces (ps.drop half):=hp.sub fun x m=>List.mem_of_mem_drop m
      refine x02 (take_drop_ne hq.1 hq.2) ?_;intro n1 n2
      have lA:(ps.take half).length≤43:=by rw [List.length_take];lia
      have lB:(ps.drop half).length≤43:=by rw [List.length_drop];lia
      refine x02 (join_of hA lA) ?_;intro jA jlA
      refine x02 (join_of hB lB) ?_;intro jB jlB
      have gA:=join_good hA n1
      have gB:=join_good hB n2
      have wA:=eff_wf gA wa
      have hlm:((ps.map V.bytes).length≤lim)=True:=eq_true (lim_ge (by rw [List.length_map];lia))
      have hsm:smallO (some (half:Int))=true:=smallO_nat (by lia)
      have hsl1:∀ t6,eL (lSlc (eVar 1) none (some (eVar 4))) (S11 s0 (.val (psV ps)) (.val (penV a)) s3 (.val (.int (half:Int))) (.val (.bytes (joinB [59] ps))) t6 s7 s8 s9 s10++fs)=some (psV (ps.take half),S11 s0 (.val (psV ps)) (.val (penV a)) s3 (.val (.int (half:Int))) (.val (.bytes (joinB [59] ps))) t6 s7 s8 s9 s10++fs):=fun t6=>by
        have v1:eVar 1 (S11 s0 (.val (psV ps)) (.val (penV a)) s3 (.val (.int (half:Int))) (.val (.bytes (joinB [59] ps))) t6 s7 s8 s9 s10++fs)=some (.lst (ps.map V.bytes),S11 s0 (.val (psV ps)) (.val (penV a)) s3 (.val (.int (half:Int))) (.val (.bytes (joinB [59] ps))) t6 s7 s8 s9 s10++fs):=rfl
        have v4:eVar 4 (S11 s0 (.val (psV ps)) (.val (penV a)) s3 (.val (.int (half:Int))) (.val (.bytes (joinB [59] ps))) t6 s7 s8 s9 s10++fs)=some (.int (half:Int),S11 s0 (.val (psV ps)) (.val (penV a)) s3 (.val (.int (half:Int))) (.val (.bytes (joinB [59] ps))) t6 s7 s8 s9 s10++fs):=rfl
        have hno:smallO none=true:=rfl
        simp only [eL,lSlc,opt,v1,v4,hno,hsm,hlm,cut_to,decide_true,Bool.and_self,if_true,Option.bind_eq_bind,Option.bind_some,psV,List.map_take]
      have hsl2:∀ t6,eL (lSlc (eVar 1) (some (eVar 4)) none) (S11 s0 (.val (psV ps)) (.val (penV a)) s3 (.val (.int (half:Int))) (.val (.bytes (joinB [59] ps))) t6 s7 s8 s9 s10++fs)=some (psV (ps.drop half),S11 s0 (.val (psV ps)) (.val (penV a)) s3 (.val (.int (half:Int))) (.val (.bytes (joinB [59] ps))) t6 s7 s8 s9 s10++fs):=fun t6=>by
        have v1:eVar 1 (S11 s0 (.val (psV ps)) (.val (penV a)) s3 (.val (.int (half:Int))) (.val (.bytes (joinB [59] ps))) t6 s7 s8 s9 s10++fs)=some (.lst (ps.map V.bytes),S11 s0 (.val (psV ps)) (.val (penV a)) s3 (.val (.int (half:Int))) (.val (.bytes (joinB [59] ps))) t6 s7 s8 s9 s10++fs):=rfl
        have v4:eVar 4 (S11 s0 (.val (psV ps)) (.val (penV a)) s3 (.val (.int (half:Int))) (.val (.bytes (joinB [59] ps))) t6 s7 s8 s9 s10++fs)=some (.int (half:Int),S11 s0 (.val (psV ps)) (.val (penV a)) s3 (.val (.int (half:Int))) (.val (.bytes (joinB [59] ps))) t6 s7 s8 s9 s10++fs):=rfl
        have hno:smallO none=true:=rfl
        simp only [eL,lSlc,opt,v1,v4,hno,hsm,hlm,cut_from,decide_true,Bool.and_self,if_true,Option.bind_eq_bind,Option.bind_some,psV,List.map_drop]
      have c1:eCall F_apply_sgr [(eVar 2),(eCall F_read_params [(eF2 joinV (eCst (.bytes [59])) (eL (lSlc (eVar 1) none (some (eVar 4)))))])] (S11 s0 (.val (psV ps)) (.val (penV a)) s3 (.val (.int (half:Int))) (.val (.bytes (joinB [59] ps))) s6 s7 s8 s9 s10++fs)=some (penV (eff (joinB [59] (ps.take half)) a),S11 s0 (.val (psV ps)) (.val (penV a)) s3 (.val (.int (half:Int))) (.val (.bytes (joinB [59] ps))) s6 s7 s8 s9 s10++fs):=
        eCall2_of rfl (eCall1_of (eF2_of rfl (hsl1 s6) jA) (read_bytes (lim_ge (by lia)) gA)) (apply_bytes gA wa)
      rw [bCons_asg c1]
      have c2:eCall F_apply_sgr [(eVar 6),(eCall F_read_params [(eF2 joinV (eCst (.bytes [59])) (eL (lSlc (eVar 1) (some (eVar 4)) none)))])] (S11 s0 (.val (psV ps)) (.val (penV a)) s3 (.val (.int (half:Int))) (.val (.bytes (joinB [59] ps))) (.val (penV (eff (joinB [59] (ps.take half)) a))) s7 s8 s9 s10++fs)=some (penV (eff (joinB [59] ps) a),S11 s0 (.val (psV ps)) (.val (penV a)) s3 (.val (.int (half:Int))) (.val (.bytes (joinB [59] ps))) (.val (penV (eff (joinB [59] (ps.take half)) a))) s7 s8 s9 s10++fs):=by
        have:=apply_bytes gB wA
        rw [← split_eff hp hq.1 hq.2 h32 a] at this
        exact eCall2_of rfl (eCall1_of (eF2_of rfl (hsl2 _) jB) (read_bytes (lim_ge (by lia)) gB)) this
      have c3:eCall F_apply_sgr [(eVar 2),(eCall F_read_params [(eVar 5)])] (S11 s0 (.val (psV ps)) (.val (penV a)) s3 (.val (.int (half:Int))) (.val (.bytes (joinB [59] ps))) (.val (penV (eff (joinB [59] (ps.take half)) a))) s7 s8 s9 s10++fs)=some (penV (eff (joinB [59] ps) a),S11 s0 (.val (psV ps)) (.val (penV a)) s3 (.val (.int (half:Int))) (.val (.bytes (joinB [59] ps))) (.val (penV (eff (joinB [59] (ps.take half)) a))) s7 s8 s9 s10++fs):=
        eCall2_of rfl (eCall1_of rfl (read_bytes (lim_ge (by lia)) hgood)) (apply_bytes hgood wa)
      exact (bCons_next ((sIf_false (tCmp_of c2 c3 (ne_pen _))).trans rfl)).trans rfl
    · rw [decide_eq_false hq] at ht2
      exact ⟨s6,(sIf_false ((tAnd_true ht1).trans ht2)).trans rfl⟩
  · rw [decide_eq_false (by lia: ¬ (((((joinB [59] ps).filter (· ==59)).length:Nat):Int)<32))] at ht1
    exact ⟨s6,(sIf_false (tAnd_false ht1)).trans rfl⟩
theorem tail_idx {r:Int} (h1:0≤r) (h2:r<4):∃ t,idxV (.tup [.bytes [],.bytes [59,51,56],.bytes [59,52,56,59,53],.bytes [59,53,56,59,50,59,49]]) (.int r)=some (.bytes t)∧t∈tails:=by
  obtain ⟨n,rfl⟩:∃ n:Nat,r=(n:Int):=⟨r.toNat,by lia⟩
  have:n=0∨n=1∨n=2∨n=3:=by lia
  rcases this with rfl | rfl | rfl | rfl
  · exact ⟨_,rfl,by decide⟩
  · exact ⟨_,rfl,by decide⟩
  · exact ⟨_,rfl,by decide⟩
  · exact ⟨_,rfl,by decide⟩
theorem sign_idx {r:Int} (h1:0≤r) (h2:r<6):∃ t,idxV (.tup [.bytes [],.bytes [],.bytes [32],.bytes [60],.bytes [120],.bytes [27]]) (.int r)=some (.bytes t)∧t∈signs:=by
  obtain ⟨n,rfl⟩:∃ n:Nat,r=(n:Int):=⟨r.toNat,by lia⟩
  have:n=0∨n=1∨n=2∨n=3∨n=4∨n=5:=by lia
  rcases this with rfl | rfl | rfl | rfl | rfl | rfl
  · exact ⟨_,rfl,by decide⟩
  · exact ⟨_,rfl,by decide⟩
  · exact ⟨_,rfl,by decide⟩
  · exact ⟨_,rfl,by decide⟩
  · exact ⟨_,rfl,by decide⟩
  · exact ⟨_,rfl,by decide⟩
theorem step7 {fs:List Slot} (hd:DeckOk fs) {oct:List UInt8} (hl:oct.length≤1333) (hg:∀ r∈allRows oct,GoodRow r):
    ∃ oct' fs',sAsg 5 (eBin .Add (eVar 5) (eIdx (eTup [(eCst (.bytes [])),(eCst (.bytes [59,51,56])),(eCst (.bytes [59,52,56,59,53])),(eCst (.bytes [59,53,56,59,50,59,49]))]) (eCallO 11 F_law_draw [(eCst (.int 4))]))) (S11 s0 s1 s2 s3 s4 (.val (.bytes oct)) s6 s7 s8 s9 s10++fs)=
    some (.next,S11 s0 s1 s2 s3 s4 (.val (.bytes oct')) s6 s7 s8 s9 s10++fs')∧DeckOk fs'∧oct'.length≤1400∧∀ r∈allRows oct',GoodRow r:=by
  refine x24 (callO_draw (k:=11) (L:=S11 s0 s1 s2 s3 s4 (.val (.bytes oct)) s6 s7 s8 s9 s10) (fs:=fs) rfl (args:=[(eCst (.int 4))]) (many:=4) rfl (by decide) hd) ?_;intro r fs1 h1 hd1 a1 b1
  refine x12 (tail_idx a1 b1) ?_;intro t h2 h3
  refine x02 (tail_good hg h3) ?_;intro h4 h5
  refine ⟨oct++t,fs1,?_,hd1,by rw [List.length_append];lia,h4⟩
  have hx:eIdx (eTup [(eCst (.bytes [])),(eCst (.bytes [59,51,56])),(eCst (.bytes [59,52,56,59,53])),(eCst (.bytes [59,53,56,59,50,59,49]))]) (eCallO 11 F_law_draw [(eCst (.int 4))]) (S11 s0 s1 s2 s3 s4 (.val (.bytes oct)) s6 s7 s8 s9 s10++fs)=some (.bytes t,S11 s0 s1 s2 s3 s4 (.val (.bytes oct)) s6 s7 s8 s9 s10++fs1):=eIdx_of rfl h1 h2
  have hv:eVar 5 (S11 s0 s1 s2 s3 s4 (.val (.bytes oct)) s6 s7 s8 s9 s10++fs)=some (.bytes oct,S11 s0 s1 s2 s3 s4 (.val (.bytes oct)) s6 s7 s8 s9 s10++fs):=rfl
  have hll:(oct.length+t.length≤lim)=True:=eq_true (lim_ge (by lia))
  simp only [sAsg,eBin,hv,hx,binV,addV,hll,if_true,Option.bind_eq_bind,Option.bind_some]
  rfl
theorem step8 {fs:List Slot} (hd:DeckOk fs) {oct:List UInt8} (hl:oct.length≤1400):
    ∃ (at_:Nat) (sg:List UInt8) (fs':List Slot),sTup true [(.v 7 (eCallO 11 F_law_draw [(eBin .Add (eF1 lenV (eVar 5)) (eCst (.int 1)))])),(.v 8 (eIdx (eTup [(eCst (.bytes [])),(eCst (.bytes [])),(eCst (.bytes [32])),(eCst (.bytes [60])),(eCst (.bytes [120])),(eCst (.bytes [27]))]) (eCallO 11 F_law_draw [(eCst (.int 6))])))] (S11 s0 s1 s2 s3 s4 (.val (.bytes oct)) s6 s7 s8 s9 s10++fs)=
    some (.next,S11 s0 s1 s2 s3 s4 (.val (.bytes oct)) s6 (.val (.int (at_:Int))) (.val (.bytes sg)) s9 s10++fs')∧DeckOk fs'∧at_≤oct.length∧sg∈signs:=by
  have hn:eF1 lenV (eVar 5) (S11 s0 s1 s2 s3 s4 (.val (.bytes oct)) s6 s7 s8 s9 s10++fs)=some (.int (oct.length:Int),S11 s0 s1 s2 s3 s4 (.val (.bytes oct)) s6 s7 s8 s9 s10++fs):=eF1_of rfl (len_bytes (by lia))
  obtain ⟨r,fs1,h1,hd1,a1,b1⟩:=callO_draw (k:=11) (L:=S11 s0 s1 s2 s3 s4 (.val (.bytes oct)) s6 s7 s8 s9 s10) (fs:=fs) rfl (args:=[(eBin .Add (eF1 lenV (eVar 5)) (eCst (.int 1)))]) (many:=(oct.length:Int)+1) (by
    simp only [evs,eBin,hn,eCst,binV,addV,Option.bind_eq_bind,Option.bind_some]) (by lia) hd
  obtain ⟨n,rfl⟩:∃ n:Nat,r=(n:Int):=⟨r.toNat,by lia⟩
  refine x24 (callO_draw (k:=11) (L:=S11 s0 s1 s2 s3 s4 (.val (.bytes oct)) s6 s7 s8 s9 s10) (fs:=fs1) rfl (args:=[(eCst (.int 6))]) (many:=6) rfl (by decide) hd1) ?_;intro r2 fs2 h2 hd2 a2 b2
  refine x12 (sign_idx a2 b2) ?_;intro t h3 h4
  refine ⟨n,t,fs2,?_,hd2,by lia,h4⟩
  have hx:eIdx (eTup [(eCst (.bytes [])),(eCst (.bytes [])),(eCst (.bytes [32])),(eCst (.bytes [60])),(eCst (.bytes [120])),(eCst (.bytes [27]))]) (eCallO 11 F_law_draw [(eCst (.int 6))]) (S11 s0 s1 s2 s3 s4 (.val (.bytes oct)) s6 s7 s8 s9 s10++fs1)=some (.bytes t,S11 s0 s1 s2 s3 s4 (.val (.bytes oct)) s6 s7 s8 s9 s10++fs2):=eIdx_of rfl h2 h3
  simp only [sTup,partsRun,Part.run,h1,hx,Option.bind_eq_bind,Option.bind_some]
  rfl
theorem slc_to {e:EF} {hi:EF} {st:St} {oct:List UInt8} {n:Nat} (h1:e st=some (.bytes oct,st)) (h2:hi st=some (.int (n:Int),st)) (hl:oct.length≤1400) (hn:n≤1400):eSlc e none (some hi) st=some (.bytes (oct.take n),st):=by
  have hno:smallO none=true:=rfl
  have hll:(oct.length≤lim)=True:=eq_true (lim_ge (by lia))
  simp only [eSlc,opt,h1,h2,slcV,hno,smallO_nat (show n≤1000000 by lia),hll,cut_to,Bool.and_self,if_true,Option.bind_eq_bind,Option.bind_some]
theorem slc_from {e:EF} {lo:EF} {st:St} {oct:List UInt8} {n:Nat} (h1:e st=some (.bytes oct,st)) (h2:lo st=some (.int (n:Int),st)) (hl:oct.length≤1400) (hn:n≤1400):eSlc e (some lo) none st=some (.bytes (oct.drop n),st):=by
  have hno:smallO none=true:=rfl
  have hll:(oct.length≤lim)=True:=eq_true (lim_ge (by lia))
  simp only [eSlc,opt,h1,h2,slcV,hno,smallO_nat (show n≤1000000 by lia),hll,cut_from,Bool.and_self,if_true,Option.bind_eq_bind,Option.bind_some]
theorem step9 {fs:List Slot} {oct:List UInt8} (hl:oct.length≤1400) (hg:∀ r∈allRows oct,GoodRow r) {at_:Nat} (ha:at_≤oct.length) {sg:List UInt8} (hs:sg∈signs):
    sAsg 9 (eCall F_read_params [(eBin .Add (eBin .Add (eSlc (eVar 5) none (some (eVar 7))) (eIf (tCmp .NotEq (eVar 5) (eCst (.bytes []))) (eVar 8) (eCst (.bytes [])))) (eSlc (eVar 5) (some (eVar 7)) none))]) (S11 s0 s1 s2 s3 s4 (.val (.bytes oct)) s6 (.val (.int (at_:Int))) (.val (.bytes sg)) s9 s10++fs)=
    some (.next,S11 s0 s1 s2 s3 s4 (.val (.bytes oct)) s6 (.val (.int (at_:Int))) (.val (.bytes sg)) (.val (rowsV (readRows oct))) s10++fs):=by
  refine x02 (sign_facts hs) ?_;intro k1 k2
  have c1:eSlc (eVar 5) none (some (eVar 7)) (S11 s0 s1 s2 s3 s4 (.val (.bytes oct)) s6 (.val (.int (at_:Int))) (.val (.bytes sg)) s9 s10++fs)=some (.bytes (oct.take at_),_):=slc_to rfl rfl hl (by lia)
  have c2:eSlc (eVar 5) (some (eVar 7)) none (S11 s0 s1 s2 s3 s4 (.val (.bytes oct)) s6 (.val (.int (at_:Int))) (.val (.bytes sg)) s9 s10++fs)=some (.bytes (oct.drop at_),_):=slc_from rfl rfl hl (by lia)
  have hsg:∃ sg',eIf (tCmp .NotEq (eVar 5) (eCst (.bytes []))) (eVar 8) (eCst (.bytes [])) (S11 s0 s1 s2 s3 s4 (.val (.bytes oct)) s6 (.val (.int (at_:Int))) (.val (.bytes sg)) s9 s10++fs)=some (.bytes sg',S11 s0 s1 s2 s3 s4 (.val (.bytes oct)) s6 (.val (.int (at_:Int))) (.val (.bytes sg)) s9 s10++fs)∧keep sg'=[]∧sg'.length≤1:=by
    have ht:tCmp .NotEq (eVar 5) (eCst (.bytes [])) (S11 s0 s1 s2 s3 s4 (.val (.bytes oct)) s6 (.val (.int (at_:Int))) (.val (.bytes sg)) s9 s10++fs)=some (!(oct==[]),S11 s0 s1 s2 s3 s4 (.val (.bytes oct)) s6 (.val (.int (at_:Int))) (.val (.bytes sg)) s9 s10++fs):=rfl
    cases q:(!(oct==[])) with
    | true=>rw [q] at ht;exact ⟨sg,(eIf_true ht).trans rfl,k1,k2⟩
    | false=>rw [q] at ht;exact ⟨[],(eIf_false ht).trans rfl,rfl,by simp⟩
  refine x13 hsg ?_;(try clear hsg);intro sg' c3 k3 k4
  have l1:((oct.take at_).length+sg'.length≤lim)=True:=eq_true (lim_ge (by rw [List.length_take];lia))
  have l2:((oct.take at_++sg').length+(oct.drop at_).length≤lim)=True:=eq_true (lim_ge (by rw [List.length_append,List.length_take,List.length_drop];lia))
  have c4:eBin .Add (eBin .Add (eSlc (eVar 5) none (some (eVar 7))) (eIf (tCmp .NotEq (eVar 5) (eCst (.bytes []))) (eVar 8) (eCst (.bytes [])))) (eSlc (eVar 5) (some (eVar 7)) none) (S11 s0 s1 s2 s3 s4 (.val (.bytes oct)) s6 (.val (.int (at_:Int))) (.val (.bytes sg)) s9 s10++fs)=some (.bytes (oct.take at_++sg'++oct.drop at_),S11 s0 s1 s2 s3 s4 (.val (.bytes oct)) s6 (.val (.int (at_:Int))) (.val (.bytes sg)) s9 s10++fs):=by
    have d1:∀ x y:List UInt8,(x.length+y.length≤lim)=True→binV .Add (.bytes x) (.bytes y)=some (.bytes (x++y)):=fun x y h=>if_pos (of_eq_true h)
    rw [eBin,eBin,c1]
    simp only [c3,c2,d1 _ _ l1,d1 _ _ l2,Option.bind_eq_bind,Option.bind_some]
  refine x02 (same_rows (keep_sign oct sg' at_ k3)) ?_;intro e1 e2
  have hr:=read_bytes (oct:=oct.take at_++sg'++oct.drop at_) (lim_ge (by rw [List.length_append,List.length_append,List.length_take,List.length_drop];lia)) (by rw [e1];exact hg)
  rw [e2] at hr
  have c5:=eCall1_of c4 hr
  simp only [sAsg,c5,Option.bind_eq_bind,Option.bind_some]
  rfl
theorem step10 {fs:List Slot} {oct:List UInt8} (hl:oct.length≤1400) (hg:∀ r∈allRows oct,GoodRow r) {a:Pen} (wa:WF a):
    sAsg 10 (eCall F_law_seen [(eVar 2),(eVar 5)]) (S11 s0 s1 (.val (penV a)) s3 s4 (.val (.bytes oct)) s6 s7 s8 s9 s10++fs)=some (.next,S11 s0 s1 (.val (penV a)) s3 s4 (.val (.bytes oct)) s6 s7 s8 s9 (.val (penV (eff oct a)))++fs):=by
  have c:eCall F_law_seen [(eVar 2),(eVar 5)] (S11 s0 s1 (.val (penV a)) s3 s4 (.val (.bytes oct)) s6 s7 s8 s9 s10++fs)=some (penV (eff oct a),S11 s0 s1 (.val (penV a)) s3 s4 (.val (.bytes oct)) s6 s7 s8 s9 s10++fs):=eCall2_of rfl rfl (seen_bytes (lim_ge (by lia)) hg wa)
  simp only [sAsg,c,Option.bind_eq_bind,Option.bind_some]
  rfl
theorem step11 {fs:List Slot} {oct:List UInt8} (hl:oct.length≤1400) (hg:∀ r∈allRows oct,GoodRow r) {a:Pen} (wa:WF a):
    sIf (tOr (tCmp .NotEq (eCall F_apply_sgr [(eVar 2),(eVar 9)]) (eVar 10)) (tCmp .NotEq (eCall F_apply_sgr [(eVar 2),(eCall F_read_params [(eCall F_params_octets [(eVar 9)])])]) (eVar 10))) (bCons (sRet (eCst (.bool false))) bNil) bNil (S11 s0 s1 (.val (penV a)) s3 s4 s5 s6 s7 s8 (.val (rowsV (readRows oct))) (.val (penV (eff oct a)))++fs)=
    some (.next,S11 s0 s1 (.val (penV a)) s3 s4 s5 s6 s7 s8 (.val (rowsV (readRows oct))) (.val (penV (eff oct a)))++fs):=by
  refine x03 (again hg) ?_;intro p1 p2 p3
  have hpl:=prt_len p1
  have c1:eCall F_apply_sgr [(eVar 2),(eVar 9)] (S11 s0 s1 (.val (penV a)) s3 s4 s5 s6 s7 s8 (.val (rowsV (readRows oct))) (.val (penV (eff oct a)))++fs)=some (penV (eff oct a),S11 s0 s1 (.val (penV a)) s3 s4 s5 s6 s7 s8 (.val (rowsV (readRows oct))) (.val (penV (eff oct a)))++fs):=eCall2_of rfl rfl (apply_bytes hg wa)
  have g2:=prt_good p1 p3
  have hap:=apply_bytes g2 wa
  rw [again_eff hg] at hap
  have c2:eCall F_apply_sgr [(eVar 2),(eCall F_read_params [(eCall F_params_octets [(eVar 9)])])] (S11 s0 s1 (.val (penV a)) s3 s4 s5 s6 s7 s8 (.val (rowsV (readRows oct))) (.val (penV (eff oct a)))++fs)=some (penV (eff oct a),S11 s0 s1 (.val (penV a)) s3 s4 s5 s6 s7 s8 (.val (rowsV (readRows oct))) (.val (penV (eff oct a)))++fs):=
    eCall2_of rfl (eCall1_of (eCall1_of rfl (print_of p1)) (read_bytes (lim_ge (by lia)) g2)) hap
  exact (sIf_false ((tOr_false (tCmp_of c1 rfl (ne_pen _))).trans (tCmp_of c2 rfl (ne_pen _)))).trans rfl
theorem step12 {fs:List Slot} {a b c:Pen} (wa:WF a) (wb:WF b) (wc:WF c):
    sRet (eAnd (eCall F_law_leads_right [(eVar 2),(eVar 10)]) (eAnd (eCall F_law_leads_right [(eVar 10),(eVar 3)]) (eCall F_law_leads_right [(eVar 3),(eVar 2)]))) (S11 s0 s1 (.val (penV a)) (.val (penV b)) s4 s5 s6 s7 s8 s9 (.val (penV c))++fs)=some (.ret (.bool true),S11 s0 s1 (.val (penV a)) (.val (penV b)) s4 s5 s6 s7 s8 s9 (.val (penV c))++fs):=by
  have c1:eCall F_law_leads_right [(eVar 2),(eVar 10)] (S11 s0 s1 (.val (penV a)) (.val (penV b)) s4 s5 s6 s7 s8 s9 (.val (penV c))++fs)=some (.bool true,S11 s0 s1 (.val (penV a)) (.val (penV b)) s4 s5 s6 s7 s8 s9 (.val (penV c))++fs):=eCall2_of rfl rfl (leads wa wc)
  have c2:eCall F_law_leads_right [(eVar 10),(eVar 3)] (S11 s0 s1 (.val (penV a)) (.val (penV b)) s4 s5 s6 s7 s8 s9 (.val (penV c))++fs)=some (.bool true,S11 s0 s1 (.val (penV a)) (.val (penV b)) s4 s5 s6 s7 s8 s9 (.val (penV c))++fs):=eCall2_of rfl rfl (leads wc wb)
  have c3:eCall F_law_leads_right [(eVar 3),(eVar 2)] (S11 s0 s1 (.val (penV a)) (.val (penV b)) s4 s5 s6 s7 s8 s9 (.val (penV c))++fs)=some (.bool true,S11 s0 s1 (.val (penV a)) (.val (penV b)) s4 s5 s6 s7 s8 s9 (.val (penV c))++fs):=eCall2_of rfl rfl (leads wb wa)
  simp only [sRet,eAnd,c1,c2,c3,truV,if_true,Option.bind_eq_bind,Option.bind_some]
end
theorem law_true (zs:List Int) (hz:zs.length≤63):F_law [.lst (zs.map .int)]=some (.bool true):=by
  have e:F_law [.lst (zs.map .int)]=(F_law_body [.val (.lst (zs.map .int)),.unset,.unset,.unset,.unset,.unset,.unset,.unset,.unset,.unset,.unset,.unset]).bind (fun x=>match x.1 with | .ret d=>some d | .next=>some .none):=rfl
  refine x12 (deck_of zs hz) ?_;intro fs h0 hd
  have hget:∀ r:SF,bGet F_law_deck [(eVar 0)] r [.val (.lst (zs.map .int)),.unset,.unset,.unset,.unset,.unset,.unset,.unset,.unset,.unset,.unset,.unset]=r (S11 (.val (.lst (zs.map .int))) .unset .unset .unset .unset .unset .unset .unset .unset .unset .unset++fs):=fun r=>by
    simp only [bGet,evs,eVar,List.getElem?_cons_zero,h0,Option.bind_eq_bind,Option.bind_some]
    rfl
  rw [e]
  unfold F_law_body
  rw [hget]
  generalize Slot.val (.lst (zs.map .int))=s0
  refine x25 (step1 s0 .unset .unset .unset .unset .unset .unset .unset .unset .unset .unset hd) ?_;intro ps fs1 h1 hd1 p1 p2 p3
  refine x34 (step2 s0 (.val (psV ps)) .unset .unset .unset .unset .unset .unset .unset .unset .unset hd1) ?_;intro a b fs2 h2 hd2 wa wb
  refine x25 (step3 s0 (.val (penV a)) (.val (penV b)) .unset .unset .unset .unset .unset .unset .unset hd2 p1 p2 p3) ?_;intro qs fs3 h3 hd3 q1 q2 q3
  refine x23 (step4 s0 (.val (penV a)) (.val (penV b)) .unset .unset .unset .unset .unset .unset .unset hd3 q3) ?_;intro half fs4 h4 hd4 r1
  have h5:=step5 s0 (.val (penV a)) (.val (penV b)) (.val (.int (half:Int))) .unset .unset .unset .unset .unset .unset (fs:=fs4) q1 q3
  refine x11 (step6 s0 (.val (penV b)) .unset .unset .unset .unset .unset (fs:=fs4) q1 q2 q3 wa r1) ?_;intro t6 h6
  have hne:qs≠[]:=fun e=>by rw [e] at q2;simp at q2
  refine x24 (step7 s0 (.val (psV qs)) (.val (penV a)) (.val (penV b)) (.val (.int (half:Int))) t6 .unset .unset .unset .unset hd4 (join_of q1 q3).2 (join_good q1 hne)) ?_;intro oct fs7 h7 hd7 o1 o2
  refine x34 (step8 s0 (.val (psV qs)) (.val (penV a)) (.val (penV b)) (.val (.int (half:Int))) t6 .unset .unset .unset .unset hd7 o1) ?_;intro at_ sg fs8 h8 hd8 u1 u2
  have h9:=step9 s0 (.val (psV qs)) (.val (penV a)) (.val (penV b)) (.val (.int (half:Int))) t6 .unset .unset (fs:=fs8) o1 o2 u1 u2
  have h10:=step10 s0 (.val (psV qs)) (.val (penV b)) (.val (.int (half:Int))) t6 (.val (.int (at_:Int))) (.val (.bytes sg)) (.val (rowsV (readRows oct))) .unset (fs:=fs8) o1 o2 wa
  have h11:=step11 s0 (.val (psV qs)) (.val (penV b)) (.val (.int (half:Int))) (.val (.bytes oct)) t6 (.val (.int (at_:Int))) (.val (.bytes sg)) (fs:=fs8) o1 o2 wa
  have h12:=step12 s0 (.val (psV qs)) (.val (.int (half:Int))) (.val (.bytes oct)) t6 (.val (.int (at_:Int))) (.val (.bytes sg)) (.val (rowsV (readRows oct))) (fs:=fs8) wa wb (eff_wf o2 wa)
  have h6':=h6
  unfold split6 at h6'
  rw [bCons_next h1,bCons_next h2,bCons_next h3,bCons_next h4,bCons_next h5,bCons_next h6',bCons_next h7,bCons_next h8,bCons_next h9,bCons_next h10,bCons_next h11,bCons_ret h12]
  rfl
end Mine.P
end
section
open PySem PySem.W PyProof.Rows
set_option maxHeartbeats 4000000
namespace Mine.hd
noncomputable abbrev pg:Program:=PySem.Challenge.rw_og0262_01.row.prog
noncomputable def nthS (l:List Stmt) (n:Nat):Stmt:=match l.drop n with | s::_=>s | []=> .Pass ⟨0,0,0,0⟩
noncomputable def stName:Stmt→Str | .FunctionDef n .. =>n | _=>Str.ofString ""
noncomputable def stArgs:Stmt→Arguments | .FunctionDef _ a .. =>a | _=>⟨[],[],none,[],[],none,[]⟩
noncomputable def stBody:Stmt→List Stmt | .FunctionDef _ _ b .. =>b | .ClassDef _ _ _ b .. =>b | _=>[]
noncomputable def stScope:Stmt→Scope | .FunctionDef _ _ _ _ _ _ s .. =>s | _=>{ kind:= .module,names:=[],isGenerator:=false,isCoroutine:=false}
noncomputable abbrev f (n:Nat):Stmt:=nthS pg.main.body n
noncomputable abbrev m (n:Nat):Stmt:=nthS (stBody (f 32)) n
noncomputable abbrev S (s:String) (n:Nat):Value:= .str (Str.ofString s) n
noncomputable abbrev I (i:Int):Value:= .int i 0
noncomputable abbrev J (i:Int) (n:Nat):Value:= .int i n
noncomputable abbrev R (a:Addr):Value:= .ref a
noncomputable abbrev Z:Value:= .none
noncomputable abbrev K (P:Params) (s:String) (n:Nat) (v:Value):DictEntry:={ hash:=PyData.keyHash P (Str.ofString s),key:=S s n,val:=v}
noncomputable abbrev Tp (l:List Value):Obj:={ cls:= .type "tuple",data:= .seq ⟨l⟩}
noncomputable abbrev Fl (l:List Value):Obj:={ cls:= .none,data:= .fields ⟨l⟩}
noncomputable abbrev Ty (s:String) (l:List Value):Obj:={ cls:= .type s,data:= .fields ⟨l⟩}
noncomputable abbrev Di (l:List DictEntry) (n:Nat):Obj:={ cls:= .type "dict",data:= .dict ⟨l⟩ n}
noncomputable abbrev fD (s:Stmt) (q:String):FuncData:={ name:=stName s,qualname:=Str.ofString q,params:=stArgs s,body:= .stmts (stBody s),scope:=stScope s,globals:=0,closure:=[],defaults:= .none,kwdefaults:= .none}
noncomputable abbrev Ft (s:Stmt) (q:String):Obj:={ cls:= .none,data:= .func (fD s q)}
noncomputable abbrev Fn (s:Stmt) (q:String) (d p c:Value):Obj:={ cls:= .type "function",data:= .func { fD s q with globals:=3,defaults:=d,pyModule:=p,code:=c}}
noncomputable abbrev C (n:Nat):Value:=S "/claim/cut.py" n
noncomputable abbrev OP:=Params→Obj
noncomputable abbrev tp (l:List Value):OP:=fun _=>Tp l
noncomputable abbrev fl (l:List Value):OP:=fun _=>Fl l
noncomputable abbrev ft (s:Stmt) (q:String):OP:=fun _=>Ft s q
noncomputable abbrev fn (s:Stmt) (q:String) (d p c:Value):OP:=fun _=>Fn s q d p c
noncomputable abbrev co2 (x y:String) (a:Nat) (l c:Int) (r t:Nat):OP:=fun _=>Ty "code" [S x a,S y (a+1),C (a+2),I l,I c,I 0,I 0,I 3,R r,.bool true,I 181,R (r+1),Z,R (r+2),R (r+3),R (r+4),I (t:Nat),I l,C (t+1)]
noncomputable abbrev co (x:String):Nat→Int→Int→Nat→Nat→OP:=co2 x x
noncomputable def up (t:BT) (l:List (Nat×Obj)):BT:=l.foldl (fun t p=>t.ins p.1 p.2) t
noncomputable def ups (t:BT):Nat→List Obj→BT
  | _,[]=>t
  | n,o::r=>ups (t.ins n o) (n+1) r
noncomputable def o_43:OP:=tp []
noncomputable def o_44:OP:=fl []
noncomputable def o_45:OP:=fun _=>Ty "code" [S "<module>" 182,S "<module>" 183,C 184,I 1,I 0,I 0,I 0,I 0,R 11,.bool false,I 181,R 12,Z,Z,Z,Z,I 185,I 1,C 186]
noncomputable def o_46:OP:=fun _=>{ cls:= .type "frame",slots:= #[some (R 13),some (R 3),some (R 3),none,some (S "__main__" 164),none,some (R 0)]}
noncomputable def e_49 (P:Params):List DictEntry:=[K P "__name__" 165 (S "termcore.base" 187),K P "__doc__" 166 Z,K P "__package__" 167 Z,K P "__loader__" 168 (.builtin "__main__.__loader__#opaque"),K P "__spec__" 169 Z,K P "__annotations__" 170 (R 6),K P "__builtins__" 171 (R 4),K P "__file__" 173 (C 172),K P "__cached__" 174 Z,K P "BOLD" 190 (J 1 189),K P "FAINT" 192 (J 2 191),K P "ITALIC" 194 (J 4 193),K P "BLINK" 196 (J 8 195),K P "FAST" 198 (J 16 197),K P "INVERSE" 200 (J 32 199),K P "HIDDEN" 202 (J 64 201),K P "STRUCK" 204 (J 128 203),K P "OVERLINE" 206 (J 256 205),K P "UNDER_SHIFT" 208 (J 9 207),K P "UNDER_MASK" 211 (J 3584 210),K P "NO_COLOUR" 214 (J (-1) 213),K P "DIRECT" 218 (J 16777216 217),K P "PLAIN" 221 (R 15),K P "FLAGS" 223 (J 0 222),K P "FORE" 225 (J 1 224),K P "BACK" 227 (J 2 226),K P "UNDER" 229 (J 3 228),K P "LINK" 231 (J 4 230),K P "decimal_octets" 240 (R 22),K P "pen_with" 249 (R 29),K P "under_of" 256 (R 36),K P "flags_with_under" 264 (R 43),K P "is_direct" 271 (R 50),K P "rgb_of" 278 (R 57)]
noncomputable def o_49:OP:=fun P=>Di (e_49 P) 34
noncomputable def o_50:OP:=fl [I 21,I 0,R 21,I 31,I 0,R 28,I 33,I 0,R 35,I 35,I 0,R 42,I 37,I 0,R 49,I 39,I 0,R 56]
noncomputable def o_51:OP:=tp [J 0 219,J (-1) 213,J (-1) 213,J (-1) 213,J 0 220]
noncomputable def o_52:OP:=tp []
noncomputable def o_53:OP:=fl []
noncomputable def o_54:OP:=tp [S "number" 235,S "rest" 236,S "found" 237]
noncomputable def o_55:OP:=tp []
noncomputable def o_56:OP:=ft (f 20) "decimal_octets"
noncomputable def o_57:OP:=co "decimal_octets" 232 21 1 16 238
noncomputable def o_58:OP:=fn (f 20) "decimal_octets" Z (S "termcore.base" 187) (R 21)
noncomputable def o_59:OP:=tp []
noncomputable def o_60:OP:=fl []
noncomputable def o_61:OP:=tp [S "pen" 244,S "place" 245,S "value" 246]
noncomputable def o_62:OP:=tp []
noncomputable def o_63:OP:=ft (f 21) "pen_with"
noncomputable def o_64:OP:=co "pen_with" 241 31 3 23 247
noncomputable def o_65:OP:=fn (f 21) "pen_with" Z (S "termcore.base" 187) (R 28)
noncomputable def o_66:OP:=tp []
noncomputable def o_67:OP:=fl []
noncomputable def o_68:OP:=tp [S "flags" 253]
noncomputable def o_69:OP:=tp []
noncomputable def o_70:OP:=ft (f 22) "under_of"
noncomputable def o_71:OP:=co "under_of" 250 33 1 30 254
noncomputable def o_72:OP:=fn (f 22) "under_of" Z (S "termcore.base" 187) (R 35)
noncomputable def o_73:OP:=tp []
noncomputable def o_74:OP:=fl []
noncomputable def o_75:OP:=tp [S "flags" 260,S "kind" 261]
noncomputable def o_76:OP:=tp []
noncomputable def o_77:OP:=ft (f 23) "flags_with_under"
noncomputable def o_78:OP:=co "flags_with_under" 257 35 2 37 262
noncomputable def o_79:OP:=fn (f 23) "flags_with_under" Z (S "termcore.base" 187) (R 42)
noncomputable def o_80:OP:=tp []
noncomputable def o_81:OP:=fl []
noncomputable def o_82:OP:=tp [S "colour" 268]
noncomputable def o_83:OP:=tp []
noncomputable def o_84:OP:=ft (f 24) "is_direct"
noncomputable def o_85:OP:=co "is_direct" 265 37 1 44 269
noncomputable def o_86:OP:=fn (f 24) "is_direct" Z (S "termcore.base" 187) (R 49)
noncomputable def o_87:OP:=tp []
noncomputable def o_88:OP:=fl []
noncomputable def o_89:OP:=tp [S "colour" 275]
noncomputable def o_90:OP:=tp []
noncomputable def o_91:OP:=ft (f 25) "rgb_of"
noncomputable def o_92:OP:=co "rgb_of" 272 39 1 51 276
noncomputable def o_93:OP:=fn (f 25) "rgb_of" Z (S "termcore.base" 187) (R 56)
noncomputable def e_94 (P:Params):List DictEntry:=[K P "__name__" 165 (S "termcore.params" 288)]++((e_49 P).drop 1).take 33++[K P "direct_colour" 287 (R 64),K P "FIGURE_FIRST" 291 (J 48 290),K P "FIGURE_LAST" 293 (J 57 292),K P "COLON" 295 (J 58 294),K P "SEMICOLON" 297 (J 59 296)]
noncomputable def o_94:OP:=fun P=>Di (e_94 P) 39
noncomputable def o_95:OP:=fl [I 21,I 0,R 21,I 31,I 0,R 28,I 33,I 0,R 35,I 35,I 0,R 42,I 37,I 0,R 49,I 39,I 0,R 56,I 41,I 0,R 63]
noncomputable def o_96:OP:=tp []
noncomputable def o_97:OP:=fl []
noncomputable def o_98:OP:=tp [S "red" 282,S "green" 283,S "blue" 284]
noncomputable def o_99:OP:=tp []
noncomputable def o_100:OP:=ft (f 26) "direct_colour"
noncomputable def o_101:OP:=co "direct_colour" 279 41 3 58 285
noncomputable def o_102:OP:=fn (f 26) "direct_colour" Z (S "termcore.base" 187) (R 63)
noncomputable def e_103 (P:Params):List DictEntry:=((e_94 P).drop 0).take 39++[K P "ParamReader" 370 (R 115)]
noncomputable def o_103:OP:=fun P=>Di (e_103 P) 40
noncomputable def o_104:OP:=fl [I 21,I 0,R 21,I 31,I 0,R 28,I 33,I 0,R 35,I 35,I 0,R 42,I 37,I 0,R 49,I 39,I 0,R 56,I 41,I 0,R 63,I 48,I 0,R 70]
noncomputable def o_105:OP:=tp []
noncomputable def o_106:OP:=fun _=>Ty "builtin_function_or_method" [.builtin "type.__prepare__",.type "type"]
noncomputable def o_107:OP:=fun P=>Di [K P "__module__" 305 (S "termcore.params" 288),K P "__qualname__" 307 (S "ParamReader" 306),K P "__firstlineno__" 309 (J 48 308),K P "__init__" 320 (R 79),K P "clear" 327 (R 86),K P "put" 336 (R 93),K P "close_part" 343 (R 100),K P "close_parameter" 350 (R 107),K P "params" 356 (R 112),K P "__static_attributes__" 363 (R 113)] 10
noncomputable def o_108:OP:=tp []
noncomputable def o_109:OP:=fl [I 50,I 4,R 78,I 55,I 4,R 85,I 61,I 4,R 92,I 75,I 4,R 99,I 80,I 4,R 106,I 85,I 4,R 111]
noncomputable def o_110:OP:=fun _=>Ty "code" [S "ParamReader" 300,S "ParamReader" 301,C 302,I 48,I 0,I 0,I 0,I 0,R 68,.bool false,I 181,R 69,Z,Z,Z,Z,I 303,I 48,C 304]
noncomputable def o_111:OP:=fun _=>{ cls:= .type "frame",slots:= #[some (R 70),some (R 3),some (R 67),none,some (S "termcore.params" 288),none,some (R 0)]}
noncomputable def o_112:OP:=tp [J 32 310,J 65535 311]
noncomputable def o_113:OP:=tp []
noncomputable def o_114:OP:=fl []
noncomputable def o_115:OP:=tp [S "self" 315,S "most" 316,S "limit" 317]
noncomputable def o_116:OP:=tp []
noncomputable def o_117:OP:=ft (m 0) "ParamReader.__init__"
noncomputable def o_118:OP:=co2 "__init__" "ParamReader.__init__" 312 50 3 73 318
noncomputable def o_119:OP:=fn (m 0) "ParamReader.__init__" (R 72) (S "termcore.params" 288) (R 78)
noncomputable def o_120:OP:=tp []
noncomputable def o_121:OP:=fl []
noncomputable def o_122:OP:=tp [S "self" 324]
noncomputable def o_123:OP:=tp []
noncomputable def o_124:OP:=ft (m 1) "ParamReader.clear"
noncomputable def o_125:OP:=co2 "clear" "ParamReader.clear" 321 55 1 80 325
noncomputable def o_126:OP:=fn (m 1) "ParamReader.clear" Z (S "termcore.params" 288) (R 85)
noncomputable def o_127:OP:=tp []
noncomputable def o_128:OP:=fl []
noncomputable def o_129:OP:=tp [S "self" 331,S "octet" 332,S "ahead" 333]
noncomputable def o_130:OP:=tp []
noncomputable def o_131:OP:=ft (m 2) "ParamReader.put"
noncomputable def o_132:OP:=co2 "put" "ParamReader.put" 328 61 2 87 334
noncomputable def o_133:OP:=fn (m 2) "ParamReader.put" Z (S "termcore.params" 288) (R 92)
noncomputable def o_134:OP:=tp []
noncomputable def o_135:OP:=fl []
noncomputable def o_136:OP:=tp [S "self" 340]
noncomputable def o_137:OP:=tp []
noncomputable def o_138:OP:=ft (m 3) "ParamReader.close_part"
noncomputable def o_139:OP:=co2 "close_part" "ParamReader.close_part" 337 75 1 94 341
noncomputable def o_140:OP:=fn (m 3) "ParamReader.close_part" Z (S "termcore.params" 288) (R 99)
noncomputable def o_141:OP:=tp []
noncomputable def o_142:OP:=fl []
noncomputable def o_143:OP:=tp [S "self" 347]
noncomputable def o_144:OP:=tp []
noncomputable def o_145:OP:=ft (m 4) "ParamReader.close_parameter"
noncomputable def o_146:OP:=co2 "close_parameter" "ParamReader.close_parameter" 344 80 1 101 348
noncomputable def o_147:OP:=fn (m 4) "ParamReader.close_parameter" Z (S "termcore.params" 288) (R 106)
noncomputable def o_148:OP:=tp []
noncomputable def o_149:OP:=fl []
noncomputable def o_150:OP:=ft (m 5) "ParamReader.params"
noncomputable def o_151:OP:=fun _=>Ty "code" [S "params" 351,S "ParamReader.params" 352,C 353,I 85,I 1,I 0,I 0,I 3,R 108,.bool true,I 181,R 109,Z,Z,Z,R 110,I 354,I 85,C 355]
noncomputable def o_152:OP:=fn (m 5) "ParamReader.params" Z (S "termcore.params" 288) (R 111)
noncomputable def o_153:OP:=tp [S "found" 357,S "is_begun" 358,S "limit" 359,S "most" 360,S "parts" 361,S "value" 362]
noncomputable def o_154:OP:=fun P=>Di [K P "__module__" 305 (S "termcore.params" 288),K P "__firstlineno__" 309 (J 48 308),K P "__init__" 320 (R 79),K P "clear" 327 (R 86),K P "put" 336 (R 93),K P "close_part" 343 (R 100),K P "close_parameter" 350 (R 107),K P "params" 356 (R 112),K P "__static_attributes__" 363 (R 113),K P "__dict__" 365 (R 116),K P "__weakref__" 367 (R 117),K P "__doc__" 368 Z] 4
noncomputable def o_155:OP:=fun _=>{ cls:= .type "type",data:= .cls { name:="ParamReader",bases:=[.type "object"],mro:=[R 115,.type "object"],ns:=114,qualname:="ParamReader"},slots:= #[none,none,some (S "ParamReader" 298),some (S "ParamReader" 306),some (.builtin "object.__new__"),some (.bool true)]}
noncomputable def o_156:OP:=fun _=>Ty "getset_descriptor" [S "__dict__" 364,R 115,.builtin "function.__dict__",.builtin "function.__dict__#set"]
noncomputable def o_157:OP:=fun _=>Ty "getset_descriptor" [S "__weakref__" 366,R 115,.builtin "ExceptionGroup.__weakref__",Z]
noncomputable def o_158:OP:=fun _=>Ty "super" [R 115,R 115,R 115]
noncomputable def o_159:OP:=fun _=>Ty "builtin_function_or_method" [.builtin "object.__init_subclass__",R 115]
noncomputable def e_160 (P:Params):List DictEntry:=[K P "__name__" 165 (S "termcore.pens" 397)]++((e_103 P).drop 1).take 39++[K P "read_params" 383 (R 127),K P "part_octets" 390 (R 134),K P "params_octets" 396 (R 139),K P "SGR_RESET" 400 (J 0 399),K P "SGR_FORE" 402 (J 38 401),K P "SGR_BACK" 404 (J 48 403),K P "SGR_UNDER" 406 (J 58 405),K P "FIRST_BRIGHT" 408 (J 8 407),K P "FIRST_CUBE" 410 (J 16 409),K P "FIRST_GRAY" 412 (J 232 411),K P "MOST_COLOUR" 414 (J 255 413),K P "CUBE_LEVELS" 421 (R 140),K P "pen_bits" 427 (R 147),K P "pen_plain_changed" 441 (R 154),K P "pen_colour_of" 447 (R 159),K P "pen_sub_changed" 460 (R 166),K P "pen_told_apart" 466 (R 171),K P "apply_sgr" 481 (R 178)]
noncomputable def o_160:OP:=fun P=>Di (e_160 P) 58
noncomputable def o_161:OP:=fl [I 21,I 0,R 21,I 31,I 0,R 28,I 33,I 0,R 35,I 35,I 0,R 42,I 37,I 0,R 49,I 39,I 0,R 56,I 41,I 0,R 63,I 48,I 0,R 70,I 95,I 0,R 126,I 100,I 0,R 133,I 102,I 0,R 138,I 114,I 0,R 146,I 116,I 0,R 153,I 137,I 0,R 158,I 144,I 0,R 165,I 158,I 0,R 170,I 164,I 0,R 177]
noncomputable def o_162:OP:=tp [J 32 371,J 65535 372]
noncomputable def o_163:OP:=tp []
noncomputable def o_164:OP:=fl []
noncomputable def o_165:OP:=tp [S "octets" 376,S "most" 377,S "limit" 378,S "reader" 379,S "octet" 380]
noncomputable def o_166:OP:=tp []
noncomputable def o_167:OP:=ft (f 33) "read_params"
noncomputable def o_168:OP:=co "read_params" 373 95 3 121 381
noncomputable def o_169:OP:=fn (f 33) "read_params" (R 120) (S "termcore.params" 288) (R 126)
noncomputable def o_170:OP:=tp []
noncomputable def o_171:OP:=fl []
noncomputable def o_172:OP:=tp [S "value" 387]
noncomputable def o_173:OP:=tp []
noncomputable def o_174:OP:=ft (f 34) "part_octets"
noncomputable def o_175:OP:=co "part_octets" 384 100 1 128 388
noncomputable def o_176:OP:=fn (f 34) "part_octets" Z (S "termcore.params" 288) (R 133)
noncomputable def o_177:OP:=tp []
noncomputable def o_178:OP:=fl []
noncomputable def o_179:OP:=ft (f 35) "params_octets"
noncomputable def o_180:OP:=fun _=>Ty "code" [S "params_octets" 391,S "params_octets" 392,C 393,I 102,I 1,I 0,I 0,I 3,R 135,.bool true,I 181,R 136,Z,Z,Z,R 137,I 394,I 102,C 395]
noncomputable def o_181:OP:=fn (f 35) "params_octets" Z (S "termcore.params" 288) (R 138)
noncomputable def o_182:OP:=tp [J 0 415,J 95 416,J 135 417,J 175 418,J 215 419,J 255 420]
noncomputable def o_183:OP:=tp []
noncomputable def o_184:OP:=fl []
noncomputable def o_185:OP:=tp []
noncomputable def o_186:OP:=tp []
noncomputable def o_187:OP:=ft (f 46) "pen_bits"
noncomputable def o_188:OP:=co "pen_bits" 422 114 0 141 425
noncomputable def o_189:OP:=fn (f 46) "pen_bits" Z (S "termcore.pens" 397) (R 146)
noncomputable def o_190:OP:=tp []
noncomputable def o_191:OP:=fl []
noncomputable def o_192:OP:=tp [S "pen" 431,S "number" 432,S "flags" 433,S "place" 434,S "first" 435,S "bit" 436,S "sets" 437,S "clears" 438]
noncomputable def o_193:OP:=tp []
noncomputable def o_194:OP:=ft (f 47) "pen_plain_changed"
noncomputable def o_195:OP:=co "pen_plain_changed" 428 116 2 148 439
noncomputable def o_196:OP:=fn (f 47) "pen_plain_changed" Z (S "termcore.pens" 397) (R 153)
noncomputable def o_197:OP:=tp []
noncomputable def o_198:OP:=fl []
noncomputable def o_199:OP:=ft (f 48) "pen_colour_of"
noncomputable def o_200:OP:=fun _=>Ty "code" [S "pen_colour_of" 442,S "pen_colour_of" 443,C 444,I 137,I 2,I 0,I 0,I 3,R 155,.bool true,I 181,R 156,Z,Z,Z,R 157,I 445,I 137,C 446]
noncomputable def o_201:OP:=fn (f 48) "pen_colour_of" Z (S "termcore.pens" 397) (R 158)
noncomputable def o_202:OP:=tp []
noncomputable def o_203:OP:=fl []
noncomputable def o_204:OP:=tp [S "pen" 451,S "param" 452,S "number" 453,S "subs" 454,S "places" 455,S "parts" 456,S "colour" 457]
noncomputable def o_205:OP:=tp []
noncomputable def o_206:OP:=ft (f 49) "pen_sub_changed"
noncomputable def o_207:OP:=co "pen_sub_changed" 448 144 2 160 458
noncomputable def o_208:OP:=fn (f 49) "pen_sub_changed" Z (S "termcore.pens" 397) (R 165)
noncomputable def o_209:OP:=tp []
noncomputable def o_210:OP:=fl []
noncomputable def o_211:OP:=ft (f 50) "pen_told_apart"
noncomputable def o_212:OP:=fun _=>Ty "code" [S "pen_told_apart" 461,S "pen_told_apart" 462,C 463,I 158,I 2,I 0,I 0,I 3,R 167,.bool true,I 181,R 168,Z,Z,Z,R 169,I 464,I 158,C 465]
noncomputable def o_213:OP:=fn (f 50) "pen_told_apart" Z (S "termcore.pens" 397) (R 170)
noncomputable def o_214:OP:=tp []
noncomputable def o_215:OP:=fl []
noncomputable def o_216:OP:=tp [S "pen" 470,S "params" 471,S "found" 472,S "at" 473,S "rows" 474,S "places" 475,S "param" 476,S "number" 477,S "colour" 478]
noncomputable def o_217:OP:=tp []
noncomputable def o_218:OP:=ft (f 51) "apply_sgr"
noncomputable def o_219:OP:=co "apply_sgr" 467 164 2 172 479
noncomputable def o_220:OP:=fn (f 51) "apply_sgr" Z (S "termcore.pens" 397) (R 177)
noncomputable def e_221 (P:Params):List DictEntry:=((e_160 P).drop 0).take 58++[K P "sgr_colour_params" 493 (R 185),K P "sgr_bit_params" 510 (R 192),K P "sgr_under_params" 519 (R 199),K P "sgr_changes" 529 (R 206),K P "pen_told" 539 (R 213),K P "sgr_params" 552 (R 221),K P "sgr_octets" 562 (R 229),K P "first_sixteen" 568 (R 236),K P "rgb_number" 577 (R 243),K P "palette_rgb" 586 (R 250),K P "colour_distance" 597 (R 257),K P "nearest_level" 607 (R 264)]
noncomputable def o_221:OP:=fun P=>Di (e_221 P) 70
noncomputable def o_222:OP:=fl [I 21,I 0,R 21,I 31,I 0,R 28,I 33,I 0,R 35,I 35,I 0,R 42,I 37,I 0,R 49,I 39,I 0,R 56,I 41,I 0,R 63,I 48,I 0,R 70,I 95,I 0,R 126,I 100,I 0,R 133,I 102,I 0,R 138,I 114,I 0,R 146,I 116,I 0,R 153,I 137,I 0,R 158,I 144,I 0,R 165,I 158,I 0,R 170,I 164,I 0,R 177,I 181,I 0,R 184,I 191,I 0,R 191,I 203,I 0,R 198,I 208,I 0,R 205,I 215,I 0,R 212,I 220,I 0,R 220,I 228,I 0,R 228,I 231,I 0,R 235,I 233,I 0,R 242,I 235,I 0,R 249,I 243,I 0,R 256,I 248,I 0,R 263]
noncomputable def o_223:OP:=tp []
noncomputable def o_224:OP:=fl []
noncomputable def o_225:OP:=tp [S "place" 485,S "colour" 486,S "first" 487,S "red" 488,S "green" 489,S "blue" 490]
noncomputable def o_226:OP:=tp []
noncomputable def o_227:OP:=ft (f 52) "sgr_colour_params"
noncomputable def o_228:OP:=co "sgr_colour_params" 482 181 2 179 491
noncomputable def o_229:OP:=fn (f 52) "sgr_colour_params" Z (S "termcore.pens" 397) (R 184)
noncomputable def o_230:OP:=tp []
noncomputable def o_231:OP:=fl []
noncomputable def o_232:OP:=tp [S "old" 497,S "new" 498,S "clears" 499,S "sets" 500,S "here" 501,S "bit" 502,S "one" 503,S "other" 504,S "mate" 505,S "unused" 506,S "clear" 507]
noncomputable def o_233:OP:=tp []
noncomputable def o_234:OP:=ft (f 53) "sgr_bit_params"
noncomputable def o_235:OP:=co "sgr_bit_params" 494 191 2 186 508
noncomputable def o_236:OP:=fn (f 53) "sgr_bit_params" Z (S "termcore.pens" 397) (R 191)
noncomputable def o_237:OP:=tp []
noncomputable def o_238:OP:=fl []
noncomputable def o_239:OP:=tp [S "old" 514,S "new" 515,S "plain" 516]
noncomputable def o_240:OP:=tp []
noncomputable def o_241:OP:=ft (f 54) "sgr_under_params"
noncomputable def o_242:OP:=co "sgr_under_params" 511 203 2 193 517
noncomputable def o_243:OP:=fn (f 54) "sgr_under_params" Z (S "termcore.pens" 397) (R 198)
noncomputable def o_244:OP:=tp []
noncomputable def o_245:OP:=fl []
noncomputable def o_246:OP:=tp [S "old" 523,S "new" 524,S "found" 525,S "place" 526]
noncomputable def o_247:OP:=tp []
noncomputable def o_248:OP:=ft (f 55) "sgr_changes"
noncomputable def o_249:OP:=co "sgr_changes" 520 208 2 200 527
noncomputable def o_250:OP:=fn (f 55) "sgr_changes" Z (S "termcore.pens" 397) (R 205)
noncomputable def o_251:OP:=tp []
noncomputable def o_252:OP:=fl []
noncomputable def o_253:OP:=tp [S "pen" 533,S "can_direct" 534,S "colours" 535,S "colour" 536]
noncomputable def o_254:OP:=tp []
noncomputable def o_255:OP:=ft (f 56) "pen_told"
noncomputable def o_256:OP:=co "pen_told" 530 215 2 207 537
noncomputable def o_257:OP:=fn (f 56) "pen_told" Z (S "termcore.pens" 397) (R 212)
noncomputable def o_258:OP:=tp [.bool true]
noncomputable def o_259:OP:=tp []
noncomputable def o_260:OP:=fl []
noncomputable def o_261:OP:=tp [S "old" 543,S "new" 544,S "can_direct" 545,S "here" 546,S "there" 547,S "changes" 548,S "anew" 549]
noncomputable def o_262:OP:=tp []
noncomputable def o_263:OP:=ft (f 57) "sgr_params"
noncomputable def o_264:OP:=co "sgr_params" 540 220 3 215 550
noncomputable def o_265:OP:=fn (f 57) "sgr_params" (R 214) (S "termcore.pens" 397) (R 220)
noncomputable def o_266:OP:=tp [.bool true]
noncomputable def o_267:OP:=tp []
noncomputable def o_268:OP:=fl []
noncomputable def o_269:OP:=tp [S "old" 556,S "new" 557,S "can_direct" 558,S "params" 559]
noncomputable def o_270:OP:=tp []
noncomputable def o_271:OP:=ft (f 58) "sgr_octets"
noncomputable def o_272:OP:=co "sgr_octets" 553 228 3 223 560
noncomputable def o_273:OP:=fn (f 58) "sgr_octets" (R 222) (S "termcore.pens" 397) (R 228)
noncomputable def o_274:OP:=tp []
noncomputable def o_275:OP:=fl []
noncomputable def o_276:OP:=tp []
noncomputable def o_277:OP:=tp []
noncomputable def o_278:OP:=ft (f 59) "first_sixteen"
noncomputable def o_279:OP:=co "first_sixteen" 563 231 0 230 566
noncomputable def o_280:OP:=fn (f 59) "first_sixteen" Z (S "termcore.pens" 397) (R 235)
noncomputable def o_281:OP:=tp []
noncomputable def o_282:OP:=fl []
noncomputable def o_283:OP:=tp [S "red" 572,S "green" 573,S "blue" 574]
noncomputable def o_284:OP:=tp []
noncomputable def o_285:OP:=ft (f 60) "rgb_number"
noncomputable def o_286:OP:=co "rgb_number" 569 233 3 237 575
noncomputable def o_287:OP:=fn (f 60) "rgb_number" Z (S "termcore.pens" 397) (R 242)
noncomputable def o_288:OP:=tp []
noncomputable def o_289:OP:=fl []
noncomputable def o_290:OP:=tp [S "index" 581,S "place" 582,S "level" 583]
noncomputable def o_291:OP:=tp []
noncomputable def o_292:OP:=ft (f 61) "palette_rgb"
noncomputable def o_293:OP:=co "palette_rgb" 578 235 1 244 584
noncomputable def o_294:OP:=fn (f 61) "palette_rgb" Z (S "termcore.pens" 397) (R 249)
noncomputable def o_295:OP:=tp []
noncomputable def o_296:OP:=fl []
noncomputable def o_297:OP:=tp [S "one" 590,S "other" 591,S "found" 592,S "near" 593,S "far" 594]
noncomputable def o_298:OP:=tp []
noncomputable def o_299:OP:=ft (f 62) "colour_distance"
noncomputable def o_300:OP:=co "colour_distance" 587 243 2 251 595
noncomputable def o_301:OP:=fn (f 62) "colour_distance" Z (S "termcore.pens" 397) (R 256)
noncomputable def o_302:OP:=tp []
noncomputable def o_303:OP:=fl []
noncomputable def o_304:OP:=tp [S "part" 601,S "best" 602,S "number" 603,S "level" 604]
noncomputable def o_305:OP:=tp []
noncomputable def o_306:OP:=ft (f 63) "nearest_level"
noncomputable def o_307:OP:=co "nearest_level" 598 248 1 258 605
noncomputable def o_308:OP:=fn (f 63) "nearest_level" Z (S "termcore.pens" 397) (R 263)
noncomputable def e_309 (P:Params):List DictEntry:=[K P "__name__" 165 (S "law_og0262_01" 614)]++((e_221 P).drop 1).take 69++[K P "nearest_of_256" 613 (R 269),K P "_law_pieces" 670 (R 270),K P "_law_turns" 676 (R 277),K P "_law_deck" 682 (R 282),K P "_law_draw" 690 (R 289),K P "_law_look" 696 (R 294),K P "_law_value" 705 (R 301),K P "_law_parted" 711 (R 306),K P "_law_hue" 717 (R 311),K P "_law_seen" 723 (R 316),K P "_law_inside" 730 (R 323),K P "_law_leads_right" 739 (R 330)]
noncomputable def o_309:OP:=fun P=>Di (e_309 P) 82
noncomputable def o_310:OP:=fl [I 21,I 0,R 21,I 31,I 0,R 28,I 33,I 0,R 35,I 35,I 0,R 42,I 37,I 0,R 49,I 39,I 0,R 56,I 41,I 0,R 63,I 48,I 0,R 70,I 95,I 0,R 126,I 100,I 0,R 133,I 102,I 0,R 138,I 114,I 0,R 146,I 116,I 0,R 153,I 137,I 0,R 158,I 144,I 0,R 165,I 158,I 0,R 170,I 164,I 0,R 177,I 181,I 0,R 184,I 191,I 0,R 191,I 203,I 0,R 198,I 208,I 0,R 205,I 215,I 0,R 212,I 220,I 0,R 220,I 228,I 0,R 228,I 231,I 0,R 235,I 233,I 0,R 242,I 235,I 0,R 249,I 243,I 0,R 256,I 248,I 0,R 263,I 254,I 0,R 268,I 263,I 0,R 276,I 265,I 0,R 281,I 270,I 0,R 288,I 275,I 0,R 293,I 279,I 0,R 300,I 284,I 0,R 305,I 289,I 0,R 310,I 295,I 0,R 315,I 327,I 0,R 322,I 329,I 0,R 329]
noncomputable def o_311:OP:=tp []
noncomputable def o_312:OP:=fl []
noncomputable def o_313:OP:=ft (f 64) "nearest_of_256"
noncomputable def o_314:OP:=fun _=>Ty "code" [S "nearest_of_256" 608,S "nearest_of_256" 609,C 610,I 254,I 1,I 0,I 0,I 3,R 265,.bool true,I 181,R 266,Z,Z,Z,R 267,I 611,I 254,C 612]
noncomputable def o_315:OP:=fn (f 64) "nearest_of_256" Z (S "termcore.pens" 397) (R 268)
noncomputable def o_316:OP:=tp [Value.bytes #[] 616,Value.bytes #[49] 617,Value.bytes #[50] 618,Value.bytes #[51] 619,Value.bytes #[52] 620,Value.bytes #[53] 621,Value.bytes #[54] 622,Value.bytes #[55] 623,Value.bytes #[56] 624,Value.bytes #[57] 625,Value.bytes #[50,49] 626,Value.bytes #[50,50] 627,Value.bytes #[50,51] 628,Value.bytes #[50,52] 629,Value.bytes #[50,53] 630,Value.bytes #[50,55] 631,Value.bytes #[50,56] 632,Value.bytes #[50,57] 633,Value.bytes #[48] 634,Value.bytes #[51,49] 635,Value.bytes #[51,55] 636,Value.bytes #[51,56,59,53,59,57] 637,Value.bytes #[51,57] 638,Value.bytes #[52,48] 639,Value.bytes #[52,55] 640,Value.bytes #[52,56,59,50,59,49,59,50,59,51] 641,Value.bytes #[52,57] 642,Value.bytes #[53,51] 643,Value.bytes #[53,53] 644,Value.bytes #[53,56,58,53,58,55] 645,Value.bytes #[53,57] 646,Value.bytes #[57,48] 647,Value.bytes #[57,55] 648,Value.bytes #[49,48,48] 649,Value.bytes #[49,48,55] 650,Value.bytes #[52,58,51] 651,Value.bytes #[52,58,48] 652,Value.bytes #[52,58,57] 653,Value.bytes #[52,58] 654,Value.bytes #[58,52] 655,Value.bytes #[49,58,49] 656,Value.bytes #[51,56,58,53,58,51,48,48] 657,Value.bytes #[51,56,58,53,58,48] 658,Value.bytes #[51,56,58,50,58,57,58,56,58,55] 659,Value.bytes #[52,56,58,50,58,58,57,58,56,58,55] 660,Value.bytes #[52,56,58,50,58,49,58,50] 661,Value.bytes #[53,56,59,53,59,50,53,54] 662,Value.bytes #[51,56,59,50,59,49,59,57,57,57,57,57,57,57,57,57,57,57,59,51] 663,Value.bytes #[52,56,59,55] 664,Value.bytes #[48,48,48,48,51,49] 665,Value.bytes #[54,53,53,51,54] 666,Value.bytes #[51,56,59,53,59] 667,Value.bytes #[49,48] 668,Value.bytes #[54,48] 669]
noncomputable def o_317:OP:=tp []
noncomputable def o_318:OP:=fl []
noncomputable def o_319:OP:=tp []
noncomputable def o_320:OP:=tp []
noncomputable def o_321:OP:=ft (f 67) "_law_turns"
noncomputable def o_322:OP:=co "_law_turns" 671 263 0 271 674
noncomputable def o_323:OP:=fn (f 67) "_law_turns" Z (S "law_og0262_01" 614) (R 276)
noncomputable def o_324:OP:=tp []
noncomputable def o_325:OP:=fl []
noncomputable def o_326:OP:=ft (f 68) "_law_deck"
noncomputable def o_327:OP:=fun _=>Ty "code" [S "_law_deck" 677,S "_law_deck" 678,C 679,I 265,I 1,I 0,I 0,I 3,R 278,.bool true,I 181,R 279,Z,Z,Z,R 280,I 680,I 265,C 681]
noncomputable def o_328:OP:=fn (f 68) "_law_deck" Z (S "law_og0262_01" 614) (R 281)
noncomputable def o_329:OP:=tp []
noncomputable def o_330:OP:=fl []
noncomputable def o_331:OP:=tp [S "deck" 686,S "many" 687]
noncomputable def o_332:OP:=tp []
noncomputable def o_333:OP:=ft (f 69) "_law_draw"
noncomputable def o_334:OP:=co "_law_draw" 683 270 2 283 688
noncomputable def o_335:OP:=fn (f 69) "_law_draw" Z (S "law_og0262_01" 614) (R 288)
noncomputable def o_336:OP:=tp []
noncomputable def o_337:OP:=fl []
noncomputable def o_338:OP:=ft (f 70) "_law_look"
noncomputable def o_339:OP:=fun _=>Ty "code" [S "_law_look" 691,S "_law_look" 692,C 693,I 275,I 1,I 0,I 0,I 3,R 290,.bool true,I 181,R 291,Z,Z,Z,R 292,I 694,I 275,C 695]
noncomputable def o_340:OP:=fn (f 70) "_law_look" Z (S "law_og0262_01" 614) (R 293)
noncomputable def o_341:OP:=tp []
noncomputable def o_342:OP:=fl []
noncomputable def o_343:OP:=tp [S "octets" 700,S "number" 701,S "octet" 702]
noncomputable def o_344:OP:=tp []
noncomputable def o_345:OP:=ft (f 71) "_law_value"
noncomputable def o_346:OP:=co "_law_value" 697 279 1 295 703
noncomputable def o_347:OP:=fn (f 71) "_law_value" Z (S "law_og0262_01" 614) (R 300)
noncomputable def o_348:OP:=tp []
noncomputable def o_349:OP:=fl []
noncomputable def o_350:OP:=ft (f 72) "_law_parted"
noncomputable def o_351:OP:=fun _=>Ty "code" [S "_law_parted" 706,S "_law_parted" 707,C 708,I 284,I 1,I 0,I 0,I 3,R 302,.bool true,I 181,R 303,Z,Z,Z,R 304,I 709,I 284,C 710]
noncomputable def o_352:OP:=fn (f 72) "_law_parted" Z (S "law_og0262_01" 614) (R 305)
noncomputable def o_353:OP:=tp []
noncomputable def o_354:OP:=fl []
noncomputable def o_355:OP:=ft (f 73) "_law_hue"
noncomputable def o_356:OP:=fun _=>Ty "code" [S "_law_hue" 712,S "_law_hue" 713,C 714,I 289,I 2,I 0,I 0,I 3,R 307,.bool true,I 181,R 308,Z,Z,Z,R 309,I 715,I 289,C 716]
noncomputable def o_357:OP:=fn (f 73) "_law_hue" Z (S "law_og0262_01" 614) (R 310)
noncomputable def o_358:OP:=tp []
noncomputable def o_359:OP:=fl []
noncomputable def o_360:OP:=ft (f 74) "_law_seen"
noncomputable def o_361:OP:=fun _=>Ty "code" [S "_law_seen" 718,S "_law_seen" 719,C 720,I 295,I 2,I 0,I 0,I 3,R 312,.bool true,I 181,R 313,Z,Z,Z,R 314,I 721,I 295,C 722]
noncomputable def o_362:OP:=fn (f 74) "_law_seen" Z (S "law_og0262_01" 614) (R 315)
noncomputable def o_363:OP:=tp []
noncomputable def o_364:OP:=fl []
noncomputable def o_365:OP:=tp [S "octets" 727]
noncomputable def o_366:OP:=tp []
noncomputable def o_367:OP:=ft (f 75) "_law_inside"
noncomputable def o_368:OP:=co "_law_inside" 724 327 1 317 728
noncomputable def o_369:OP:=fn (f 75) "_law_inside" Z (S "law_og0262_01" 614) (R 322)
noncomputable def o_370:OP:=tp []
noncomputable def o_371:OP:=fl []
noncomputable def o_372:OP:=tp [S "old" 734,S "new" 735,S "told" 736]
noncomputable def o_373:OP:=tp []
noncomputable def o_374:OP:=ft (f 76) "_law_leads_right"
noncomputable def o_375:OP:=co "_law_leads_right" 731 329 2 324 737
noncomputable def o_376:OP:=fn (f 76) "_law_leads_right" Z (S "law_og0262_01" 614) (R 329)
noncomputable def e_377 (P:Params):List DictEntry:=((e_309 P).drop 0).take 82++[K P "law" 745 (R 335)]
noncomputable def o_377:OP:=fun P=>Di (e_377 P) 83
noncomputable def o_378:OP:=fl [I 21,I 0,R 21,I 31,I 0,R 28,I 33,I 0,R 35,I 35,I 0,R 42,I 37,I 0,R 49,I 39,I 0,R 56,I 41,I 0,R 63,I 48,I 0,R 70,I 95,I 0,R 126,I 100,I 0,R 133,I 102,I 0,R 138,I 114,I 0,R 146,I 116,I 0,R 153,I 137,I 0,R 158,I 144,I 0,R 165,I 158,I 0,R 170,I 164,I 0,R 177,I 181,I 0,R 184,I 191,I 0,R 191,I 203,I 0,R 198,I 208,I 0,R 205,I 215,I 0,R 212,I 220,I 0,R 220,I 228,I 0,R 228,I 231,I 0,R 235,I 233,I 0,R 242,I 235,I 0,R 249,I 243,I 0,R 256,I 248,I 0,R 263,I 254,I 0,R 268,I 263,I 0,R 276,I 265,I 0,R 281,I 270,I 0,R 288,I 275,I 0,R 293,I 279,I 0,R 300,I 284,I 0,R 305,I 289,I 0,R 310,I 295,I 0,R 315,I 327,I 0,R 322,I 329,I 0,R 329,I 334,I 0,R 334]
noncomputable def o_379:OP:=tp []
noncomputable def o_380:OP:=fl []
noncomputable def o_381:OP:=ft (f 77) "law"
noncomputable def o_382:OP:=fun _=>Ty "code" [S "law" 740,S "law" 741,C 742,I 334,I 1,I 0,I 0,I 3,R 331,.bool true,I 181,R 332,Z,Z,Z,R 333,I 743,I 334,C 744]
noncomputable def o_383:OP:=fn (f 77) "law" Z (S "law_og0262_01" 614) (R 334)
noncomputable def tree_47:Params→BT:=fun P=>ups .nil 0 [boot_o_0 P,boot_o_1 P,boot_o_2 P,boot_o_3 P,boot_o_4 P,boot_o_5 P,boot_o_6 P,boot_o_7 P,boot_o_8 P,boot_o_9 P,boot_o_10 P,o_43 P,o_44 P,o_45 P,o_46 P]
noncomputable def tree_93:Params→BT:=fun P=>ups (up (tree_47 P) [(3,o_49 P),(12,o_50 P)]) 15 [o_51 P,o_52 P,o_53 P,o_54 P,o_55 P,o_56 P,o_57 P,o_58 P,o_59 P,o_60 P,o_61 P,o_62 P,o_63 P,o_64 P,o_65 P,o_66 P,o_67 P,o_68 P,o_69 P,o_70 P,o_71 P,o_72 P,o_73 P,o_74 P,o_75 P,o_76 P,o_77 P,o_78 P,o_79 P,o_80 P,o_81 P,o_82 P,o_83 P,o_84 P,o_85 P,o_86 P,o_87 P,o_88 P,o_89 P,o_90 P,o_91 P,o_92 P,o_93 P]
noncomputable def tree_102:Params→BT:=fun P=>ups (up (tree_93 P) [(3,o_94 P),(12,o_95 P)]) 58 [o_96 P,o_97 P,o_98 P,o_99 P,o_100 P,o_101 P,o_102 P]
noncomputable def tree_159:Params→BT:=fun P=>ups (up (tree_102 P) [(3,o_103 P),(12,o_104 P)]) 65 [o_105 P,o_106 P,o_107 P,o_108 P,o_109 P,o_110 P,o_111 P,o_112 P,o_113 P,o_114 P,o_115 P,o_116 P,o_117 P,o_118 P,o_119 P,o_120 P,o_121 P,o_122 P,o_123 P,o_124 P,o_125 P,o_126 P,o_127 P,o_128 P,o_129 P,o_130 P,o_131 P,o_132 P,o_133 P,o_134 P,o_135 P,o_136 P,o_137 P,o_138 P,o_139 P,o_140 P,o_141 P,o_142 P,o_143 P,o_144 P,o_145 P,o_146 P,o_147 P,o_148 P,o_149 P,o_150 P,o_151 P,o_152 P,o_153 P,o_154 P,o_155 P,o_156 P,o_157 P,o_158 P,o_159 P]
noncomputable def tree_220:Params→BT:=fun P=>ups (up (tree_159 P) [(3,o_160 P),(12,o_161 P)]) 120 [o_162 P,o_163 P,o_164 P,o_165 P,o_166 P,o_167 P,o_168 P,o_169 P,o_170 P,o_171 P,o_172 P,o_173 P,o_174 P,o_175 P,o_176 P,o_177 P,o_178 P,o_179 P,o_180 P,o_181 P,o_182 P,o_183 P,o_184 P,o_185 P,o_186 P,o_187 P,o_188 P,o_189 P,o_190 P,o_191 P,o_192 P,o_193 P,o_194 P,o_195 P,o_196 P,o_197 P,o_198 P,o_199 P,o_200 P,o_201 P,o_202 P,o_203 P,o_204 P,o_205 P,o_206 P,o_207 P,o_208 P,o_209 P,o_210 P,o_211 P,o_212 P,o_213 P,o_214 P,o_215 P,o_216 P,o_217 P,o_218 P,o_219 P,o_220 P]
noncomputable def tree_308:Params→BT:=fun P=>ups (up (tree_220 P) [(3,o_221 P),(12,o_222 P)]) 179 [o_223 P,o_224 P,o_225 P,o_226 P,o_227 P,o_228 P,o_229 P,o_230 P,o_231 P,o_232 P,o_233 P,o_234 P,o_235 P,o_236 P,o_237 P,o_238 P,o_239 P,o_240 P,o_241 P,o_242 P,o_243 P,o_244 P,o_245 P,o_246 P,o_247 P,o_248 P,o_249 P,o_250 P,o_251 P,o_252 P,o_253 P,o_254 P,o_255 P,o_256 P,o_257 P,o_258 P,o_259 P,o_260 P,o_261 P,o_262 P,o_263 P,o_264 P,o_265 P,o_266 P,o_267 P,o_268 P,o_269 P,o_270 P,o_271 P,o_272 P,o_273 P,o_274 P,o_275 P,o_276 P,o_277 P,o_278 P,o_279 P,o_280 P,o_281 P,o_282 P,o_283 P,o_284 P,o_285 P,o_286 P,o_287 P,o_288 P,o_289 P,o_290 P,o_291 P,o_292 P,o_293 P,o_294 P,o_295 P,o_296 P,o_297 P,o_298 P,o_299 P,o_300 P,o_301 P,o_302 P,o_303 P,o_304 P,o_305 P,o_306 P,o_307 P,o_308 P]
noncomputable def tree_376:Params→BT:=fun P=>ups (up (tree_308 P) [(3,o_309 P),(12,o_310 P)]) 265 [o_311 P,o_312 P,o_313 P,o_314 P,o_315 P,o_316 P,o_317 P,o_318 P,o_319 P,o_320 P,o_321 P,o_322 P,o_323 P,o_324 P,o_325 P,o_326 P,o_327 P,o_328 P,o_329 P,o_330 P,o_331 P,o_332 P,o_333 P,o_334 P,o_335 P,o_336 P,o_337 P,o_338 P,o_339 P,o_340 P,o_341 P,o_342 P,o_343 P,o_344 P,o_345 P,o_346 P,o_347 P,o_348 P,o_349 P,o_350 P,o_351 P,o_352 P,o_353 P,o_354 P,o_355 P,o_356 P,o_357 P,o_358 P,o_359 P,o_360 P,o_361 P,o_362 P,o_363 P,o_364 P,o_365 P,o_366 P,o_367 P,o_368 P,o_369 P,o_370 P,o_371 P,o_372 P,o_373 P,o_374 P,o_375 P,o_376 P]
noncomputable def tree_383:Params→BT:=fun P=>ups (up (tree_376 P) [(3,o_377 P),(12,o_378 P)]) 331 [o_379 P,o_380 P,o_381 P,o_382 P,o_383 P]
noncomputable def heap_46:Params→Heap:=fun P=>{ objs:= #[boot_o_0 P,boot_o_1 P,boot_o_2 P,boot_o_3 P,boot_o_4 P,boot_o_5 P,boot_o_6 P,boot_o_7 P,boot_o_8 P,boot_o_9 P,boot_o_10 P,o_43 P,o_44 P,o_45 P,o_46 P]}
noncomputable def heap_384:Params→Heap:=fun P=>{ objs:= #[boot_o_0 P,boot_o_1 P,boot_o_2 P,o_377 P,boot_o_4 P,boot_o_5 P,boot_o_6 P,boot_o_7 P,boot_o_8 P,boot_o_9 P,boot_o_10 P,o_43 P,o_378 P,o_45 P,o_46 P,o_51 P,o_52 P,o_53 P,o_54 P,o_55 P,o_56 P,o_57 P,o_58 P,o_59 P,o_60 P,o_61 P,o_62 P,o_63 P,o_64 P,o_65 P,o_66 P,o_67 P,o_68 P,o_69 P,o_70 P,o_71 P,o_72 P,o_73 P,o_74 P,o_75 P,o_76 P,o_77 P,o_78 P,o_79 P,o_80 P,o_81 P,o_82 P,o_83 P,o_84 P,o_85 P,o_86 P,o_87 P,o_88 P,o_89 P,o_90 P,o_91 P,o_92 P,o_93 P,o_96 P,o_97 P,o_98 P,o_99 P,o_100 P,o_101 P,o_102 P,o_105 P,o_106 P,o_107 P,o_108 P,o_109 P,o_110 P,o_111 P,o_112 P,o_113 P,o_114 P,o_115 P,o_116 P,o_117 P,o_118 P,o_119 P,o_120 P,o_121 P,o_122 P,o_123 P,o_124 P,o_125 P,o_126 P,o_127 P,o_128 P,o_129 P,o_130 P,o_131 P,o_132 P,o_133 P,o_134 P,o_135 P,o_136 P,o_137 P,o_138 P,o_139 P,o_140 P,o_141 P,o_142 P,o_143 P,o_144 P,o_145 P,o_146 P,o_147 P,o_148 P,o_149 P,o_150 P,o_151 P,o_152 P,o_153 P,o_154 P,o_155 P,o_156 P,o_157 P,o_158 P,o_159 P,o_162 P,o_163 P,o_164 P,o_165 P,o_166 P,o_167 P,o_168 P,o_169 P,o_170 P,o_171 P,o_172 P,o_173 P,o_174 P,o_175 P,o_176 P,o_177 P,o_178 P,o_179 P,o_180 P,o_181 P,o_182 P,o_183 P,o_184 P,o_185 P,o_186 P,o_187 P,o_188 P,o_189 P,o_190 P,o_191 P,o_192 P,o_193 P,o_194 P,o_195 P,o_196 P,o_197 P,o_198 P,o_199 P,o_200 P,o_201 P,o_202 P,o_203 P,o_204 P,o_205 P,o_206 P,o_207 P,o_208 P,o_209 P,o_210 P,o_211 P,o_212 P,o_213 P,o_214 P,o_215 P,o_216 P,o_217 P,o_218 P,o_219 P,o_220 P,o_223 P,o_224 P,o_225 P,o_226 P,o_227 P,o_228 P,o_229 P,o_230 P,o_231 P,o_232 P,o_233 P,o_234 P,o_235 P,o_236 P,o_237 P,o_238 P,o_239 P,o_240 P,o_241 P,o_242 P,o_243 P,o_244 P,o_245 P,o_246 P,o_247 P,o_248 P,o_249 P,o_250 P,o_251 P,o_252 P,o_253 P,o_254 P,o_255 P,o_256 P,o_257 P,o_258 P,o_259 P,o_260 P,o_261 P,o_262 P,o_263 P,o_264 P,o_265 P,o_266 P,o_267 P,o_268 P,o_269 P,o_270 P,o_271 P,o_272 P,o_273 P,o_274 P,o_275 P,o_276 P,o_277 P,o_278 P,o_279 P,o_280 P,o_281 P,o_282 P,o_283 P,o_284 P,o_285 P,o_286 P,o_287 P,o_288 P,o_289 P,o_290 P,o_291 P,o_292 P,o_293 P,o_294 P,o_295 P,o_296 P,o_297 P,o_298 P,o_299 P,o_300 P,o_301 P,o_302 P,o_303 P,o_304 P,o_305 P,o_306 P,o_307 P,o_308 P,o_311 P,o_312 P,o_313 P,o_314 P,o_315 P,o_316 P,o_317 P,o_318 P,o_319 P,o_320 P,o_321 P,o_322 P,o_323 P,o_324 P,o_325 P,o_326 P,o_327 P,o_328 P,o_329 P,o_330 P,o_331 P,o_332 P,o_333 P,o_334 P,o_335 P,o_336 P,o_337 P,o_338 P,o_339 P,o_340 P,o_341 P,o_342 P,o_343 P,o_344 P,o_345 P,o_346 P,o_347 P,o_348 P,o_349 P,o_350 P,o_351 P,o_352 P,o_353 P,o_354 P,o_355 P,o_356 P,o_357 P,o_358 P,o_359 P,o_360 P,o_361 P,o_362 P,o_363 P,o_364 P,o_365 P,o_366 P,o_367 P,o_368 P,o_369 P,o_370 P,o_371 P,o_372 P,o_373 P,o_374 P,o_375 P,o_376 P,o_379 P,o_380 P,o_381 P,o_382 P,o_383 P]}
noncomputable def heap_39:Params→Frag:=fun P=>[(2,boot_o_2 P),(3,o_377 P),(15,o_51 P),(16,o_52 P),(18,o_54 P),(19,o_55 P),(21,o_57 P),(22,o_58 P),(23,o_59 P),(25,o_61 P),(26,o_62 P),(28,o_64 P),(29,o_65 P),(30,o_66 P),(32,o_68 P),(33,o_69 P),(35,o_71 P),(36,o_72 P),(37,o_73 P),(39,o_75 P),(40,o_76 P),(42,o_78 P),(43,o_79 P),(44,o_80 P),(46,o_82 P),(47,o_83 P),(49,o_85 P),(50,o_86 P),(51,o_87 P),(53,o_89 P),(54,o_90 P),(56,o_92 P),(57,o_93 P),(58,o_96 P),(60,o_98 P),(61,o_99 P),(63,o_101 P),(64,o_102 P),(72,o_112 P),(73,o_113 P),(75,o_115 P),(76,o_116 P),(78,o_118 P),(79,o_119 P),(80,o_120 P),(82,o_122 P),(83,o_123 P),(85,o_125 P),(86,o_126 P),(87,o_127 P),(89,o_129 P),(90,o_130 P),(92,o_132 P),(93,o_133 P),(94,o_134 P),(96,o_136 P),(97,o_137 P),(99,o_139 P),(100,o_140 P),(101,o_141 P),(103,o_143 P),(104,o_144 P),(106,o_146 P),(107,o_147 P),(108,o_148 P),(111,o_151 P),(112,o_152 P),(113,o_153 P),(114,o_154 P),(115,o_155 P),(116,o_156 P),(117,o_157 P),(120,o_162 P),(121,o_163 P),(123,o_165 P),(124,o_166 P),(126,o_168 P),(127,o_169 P),(128,o_170 P),(130,o_172 P),(131,o_173 P),(133,o_175 P),(134,o_176 P),(135,o_177 P),(138,o_180 P),(139,o_181 P),(140,o_182 P),(141,o_183 P),(143,o_185 P),(144,o_186 P),(146,o_188 P),(147,o_189 P),(148,o_190 P),(150,o_192 P),(151,o_193 P),(153,o_195 P),(154,o_196 P),(155,o_197 P),(158,o_200 P),(159,o_201 P),(160,o_202 P),(162,o_204 P),(163,o_205 P),(165,o_207 P),(166,o_208 P),(167,o_209 P),(170,o_212 P),(171,o_213 P),(172,o_214 P),(174,o_216 P),(175,o_217 P),(177,o_219 P),(178,o_220 P),(179,o_223 P),(181,o_225 P),(182,o_226 P),(184,o_228 P),(185,o_229 P),(186,o_230 P),(188,o_232 P),(189,o_233 P),(191,o_235 P),(192,o_236 P),(193,o_237 P),(195,o_239 P),(196,o_240 P),(198,o_242 P),(199,o_243 P),(200,o_244 P),(202,o_246 P),(203,o_247 P),(205,o_249 P),(206,o_250 P),(207,o_251 P),(209,o_253 P),(210,o_254 P),(212,o_256 P),(213,o_257 P),(214,o_258 P),(215,o_259 P),(217,o_261 P),(218,o_262 P),(220,o_264 P),(221,o_265 P),(222,o_266 P),(223,o_267 P),(225,o_269 P),(226,o_270 P),(228,o_272 P),(229,o_273 P),(230,o_274 P),(232,o_276 P),(233,o_277 P),(235,o_279 P),(236,o_280 P),(237,o_281 P),(239,o_283 P),(240,o_284 P),(242,o_286 P),(243,o_287 P),(244,o_288 P),(246,o_290 P),(247,o_291 P),(249,o_293 P),(250,o_294 P),(251,o_295 P),(253,o_297 P),(254,o_298 P),(256,o_300 P),(257,o_301 P),(258,o_302 P),(260,o_304 P),(261,o_305 P),(263,o_307 P),(264,o_308 P),(265,o_311 P),(268,o_314 P),(269,o_315 P),(270,o_316 P),(271,o_317 P),(273,o_319 P),(274,o_320 P),(276,o_322 P),(277,o_323 P),(278,o_324 P),(281,o_327 P),(282,o_328 P),(283,o_329 P),(285,o_331 P),(286,o_332 P),(288,o_334 P),(289,o_335 P),(290,o_336 P),(293,o_339 P),(294,o_340 P),(295,o_341 P),(297,o_343 P),(298,o_344 P),(300,o_346 P),(301,o_347 P),(302,o_348 P),(305,o_351 P),(306,o_352 P),(307,o_353 P),(310,o_356 P),(311,o_357 P),(312,o_358 P),(315,o_361 P),(316,o_362 P),(317,o_363 P),(319,o_365 P),(320,o_366 P),(322,o_368 P),(323,o_369 P),(324,o_370 P),(326,o_372 P),(327,o_373 P),(329,o_375 P),(330,o_376 P),(331,o_379 P),(334,o_382 P),(335,o_383 P)]
noncomputable abbrev addrs:List Addr:=[2,3,15,16,18,19,21,22,23,25,26,28,29,30,32,33,35,36,37,39,40,42,43,44,46,47,49,50,51,53,54,56,57,58,60,61,63,64,72,73,75,76,78,79,80,82,83,85,86,87,89,90,92,93,94,96,97,99,100,101,103,104,106,107,108,111,112,113,114,115,116,117,120,121,123,124,126,127,128,130,131,133,134,135,138,139,140,141,143,144,146,147,148,150,151,153,154,155,158,159,160,162,163,165,166,167,170,171,172,174,175,177,178,179,181,182,184,185,186,188,189,191,192,193,195,196,198,199,200,202,203,205,206,207,209,210,212,213,214,215,217,218,220,221,222,223,225,226,228,229,230,232,233,235,236,237,239,240,242,243,244,246,247,249,250,251,253,254,256,257,258,260,261,263,264,265,268,269,270,271,273,274,276,277,278,281,282,283,285,286,288,289,290,293,294,295,297,298,300,301,302,305,306,307,310,311,312,315,316,317,319,320,322,323,324,326,327,329,330,331,334,335]
noncomputable def env_41:Env:={ scope:=pg.main.scope,locals:=mainNs,globals:=mainNs,cells:=[],code:= .ref 13,frame:=some 14}
noncomputable abbrev bE:List Stmt:=behindTheImports pg
noncomputable abbrev cE:Code:= .body bE env_41
noncomputable abbrev q0:Pos:=⟨0,0,0,0⟩
noncomputable abbrev bF:List Frame:=[topFrame q0]
noncomputable abbrev sT (t:Params→BT) (n k:Nat) (w:World) (os:OsState):SharedT:={ tree:=t w.params,n:=n,life:={},gens:= #[],drawn:={},toks:=k,os:=os}
noncomputable abbrev sH (h:Params→Heap) (k:Nat) (w:World) (os:OsState):Shared:={ heap:=h w.params,gens:= #[],drawn:={},toks:=k,os:=os}
noncomputable def sts_49:List Stmt:=(bE.drop 0).take 26
noncomputable def sts_94:List Stmt:=(bE.drop 26).take 6
noncomputable def sts_103:List Stmt:=(bE.drop 32).take 1
noncomputable def sts_160:List Stmt:=(bE.drop 33).take 19
noncomputable def sts_221:List Stmt:=(bE.drop 52).take 12
noncomputable def sts_309:List Stmt:=(bE.drop 64).take 13
noncomputable def sts_377:List Stmt:=(bE.drop 77).take 1
theorem pre (w:World) (os:OsState):topGo treeTable pg w 11 (some (.ref 6)) 12 ⟨boot_heap w.params,#[],boot_drawn,boot_toks,os⟩ (topStub pg)=some (sH heap_46 187 w os,⟨denote treeTable cE,cE,q0,bF⟩):=by
  rw [PySem.W.Fast.te15667345088766844465,PySem.W.Fast.te14364793385576792824,PySem.W.Fast.te11892475500146522536];kernel_rfl
theorem block (w:World) (os:OsState):segRun treeTable pg w 11 (some (.ref 6)) 1 1 (sH heap_46 187 w os) (blockOf bE env_41 cE q0 bF)=some (.next,(sT tree_47 15 187 w os).abs,cE,q0):=by
  rw [PySem.W.Fast.te14374325043358763698];kernel_rfl
theorem piece_49 (w:World) (os:OsState):segRunT treeTable pg w 11 (some (.ref 6)) 1 387 (sT tree_47 15 187 w os) (piecesOf sts_49 env_41 cE ⟨0,0,0,0⟩ bF)=some (.next,sT tree_93 58 279 w os,cE,⟨39,0,40,64⟩):=by
  rw [PySem.W.Fast.te10110043849684766642,PySem.W.Fast.te14364793385576792824];kernel_rfl
theorem piece_94 (w:World) (os:OsState):segRunT treeTable pg w 11 (some (.ref 6)) 1 77 (sT tree_93 58 279 w os) (piecesOf sts_94 env_41 cE ⟨39,0,40,64⟩ bF)=some (.next,sT tree_102 65 298 w os,cE,⟨47,0,47,9⟩):=by
  rw [PySem.W.Fast.te10110043849684766642,PySem.W.Fast.te14364793385576792824];kernel_rfl
theorem piece_103 (w:World) (os:OsState):segRunT treeTable pg w 11 (some (.ref 6)) 1 386 (sT tree_102 65 298 w os) (piecesOf sts_103 env_41 cE ⟨47,0,47,9⟩ bF)=some (.next,sT tree_159 120 371 w os,cE,⟨48,0,94,20⟩):=by
  rw [PySem.W.Fast.te10110043849684766642,PySem.W.Fast.te14364793385576792824];kernel_rfl
theorem piece_160 (w:World) (os:OsState):segRunT treeTable pg w 11 (some (.ref 6)) 1 377 (sT tree_159 120 371 w os) (piecesOf sts_160 env_41 cE ⟨48,0,94,20⟩ bF)=some (.next,sT tree_220 179 482 w os,cE,⟨164,0,180,16⟩):=by
  rw [PySem.W.Fast.te10110043849684766642,PySem.W.Fast.te14364793385576792824];kernel_rfl
theorem piece_221 (w:World) (os:OsState):segRunT treeTable pg w 11 (some (.ref 6)) 1 393 (sT tree_220 179 482 w os) (piecesOf sts_221 env_41 cE ⟨164,0,180,16⟩ bF)=some (.next,sT tree_308 265 608 w os,cE,⟨248,0,253,15⟩):=by
  rw [PySem.W.Fast.te10110043849684766642,PySem.W.Fast.te14364793385576792824];kernel_rfl
theorem piece_309 (w:World) (os:OsState):segRunT treeTable pg w 11 (some (.ref 6)) 1 379 (sT tree_308 265 608 w os) (piecesOf sts_309 env_41 cE ⟨248,0,253,15⟩ bF)=some (.next,sT tree_376 331 740 w os,cE,⟨329,0,333,114⟩):=by
  rw [PySem.W.Fast.te10110043849684766642,PySem.W.Fast.te14364793385576792824];kernel_rfl
theorem piece_377 (w:World) (os:OsState):segRunT treeTable pg w 11 (some (.ref 6)) 1 27 (sT tree_376 331 740 w os) (piecesOf sts_377 env_41 cE ⟨329,0,333,114⟩ bF)=some (.next,sT tree_383 336 746 w os,cE,⟨334,0,352,105⟩):=by
  rw [PySem.W.Fast.te10110043849684766642,PySem.W.Fast.te14364793385576792824];kernel_rfl
theorem fin (w:World) (os:OsState):topRun treeTable pg w 11 (some (.ref 6)) 2 (sT tree_383 336 746 w os).abs ⟨doneF .next,cE,⟨334,0,352,105⟩,bF⟩=some (sH heap_384 746 w os):=by
  rw [PySem.W.Fast.te14082659384304107361];kernel_rfl
theorem body_eq:bE=sts_49++(sts_94++(sts_103++(sts_160++(sts_221++(sts_309++(sts_377++[])))))):=by kernel_rfl
theorem run (w:World) (os:OsState):topRun treeTable pg w 11 (some (.ref 6)) (12+(1+(387+(77+(386+(377+(393+(379+(27+2))))))))) ⟨boot_heap w.params,#[],boot_drawn,boot_toks,os⟩ (topStub pg)=some (sH heap_384 746 w os):=by
  refine go_top (pre w os) (piece_block (block w os) ?_)
  have h:=piece_app (segRun_of (piece_49 w os)) (piece_app (segRun_of (piece_94 w os)) (piece_app (segRun_of (piece_103 w os)) (piece_app (segRun_of (piece_160 w os)) (piece_app (segRun_of (piece_221 w os)) (piece_app (segRun_of (piece_309 w os)) (piece_app (segRun_of (piece_377 w os)) (piece_nil (fin w os))))))))
  rw [← body_eq] at h
  exact h
end Mine.hd
end
section
open PySem PySem.W PyProof.Rows
set_option maxHeartbeats 4000000
namespace Mine.hd
noncomputable def vw:Program:={ pg with main:={ pg.main with body:=[f 77]}}
noncomputable def loose:List Str:=["BOLD","FAINT","ITALIC","BLINK","FAST","INVERSE","HIDDEN","STRUCK","OVERLINE","UNDER_SHIFT","UNDER_MASK","NO_COLOUR","DIRECT","PLAIN","FLAGS","FORE","BACK","UNDER","LINK","decimal_octets","pen_with","under_of","flags_with_under","is_direct","rgb_of","direct_colour","FIGURE_FIRST","FIGURE_LAST","COLON","SEMICOLON","ParamReader","read_params","part_octets","params_octets","SGR_RESET","SGR_FORE","SGR_BACK","SGR_UNDER","FIRST_BRIGHT","FIRST_CUBE","FIRST_GRAY","MOST_COLOUR","CUBE_LEVELS","pen_bits","pen_plain_changed","pen_colour_of","pen_sub_changed","pen_told_apart","apply_sgr","sgr_colour_params","sgr_bit_params","sgr_under_params","sgr_changes","pen_told","sgr_params","sgr_octets","first_sixteen","rgb_number","palette_rgb","colour_distance","nearest_level","nearest_of_256","_law_pieces","_law_turns","_law_deck","_law_draw","_law_look","_law_value","_law_parted","_law_hue","_law_seen","_law_inside","_law_leads_right"].map Str.ofString
noncomputable abbrev hook:Hook:=kHook heap_39 addrs (fun _=>by kernel_rfl)
noncomputable abbrev mods:List Str:=importedModules pg.main.body
noncomputable abbrev sF (w:World) (os:OsState):Shared:=sH heap_384 746 w os
noncomputable abbrev xt:Shared→Bool:=fun s=>xlAt vw [] s && recOk PySem.Challenge.rw_og0262_01.row.records s
theorem k1 (w:World) (os:OsState):(staticsOk mods (boot_heap w.params) (heap_384 w.params) && namesBound pg (heap_384 w.params) && gensDone (sF w os) && laidKept (boot_heap w.params) (heap_384 w.params))=true:=by kernel_rfl
theorem k2 (w:World) (os:OsState):seen ((recsOf vw).map (·.name)) (ownsOf vw) [] { sF w os with gens:= #[]}=expectedOf vw:=by kernel_rfl
theorem k3 (w:World) (os:OsState):(sF w os).heap.bltView=bltViewBooted:=by kernel_rfl
theorem k4 (w:World) (os:OsState):((sF w os).heap.keysOk (looseW vw loose) ((recsOf vw).map (·.name)) ((litsOf vw).map (·.1)) ((clssOf vw (looseW vw loose)).map (·.name)) && (sF w os).heap.accountedOkI mods && (sF w os).heap.isNs mainGlobals && (sF w os).heap.isNs builtinsNs && tablesOk vw (sF w os).heap && xt (sF w os) && (if true then (sF w os).gens.size==0 else !leftWithCleanup (sF w os).gens))=true:=by kernel_rfl
theorem k5 (w:World) (os:OsState):tabsOk vw (sF w os)=true:=by kernel_rfl
theorem k6 (w:World) (os:OsState):pinSeenD vw (drecsOf vw) (sF w os)=pinGoodD (drecsOf vw):=by kernel_rfl
theorem k7 (w:World) (os:OsState):plainSeenE vw (looseW vw loose) (sF w os)=plainGoodE vw (looseW vw loose):=by kernel_rfl
theorem k8 (w:World) (os:OsState):plainSeenD vw loose (sF w os)=plainGoodD vw loose:=by kernel_rfl
theorem k9 (w:World) (os:OsState):wideSeen vw (sF w os)=wideGood vw:=by kernel_rfl
theorem k10 (w:World) (os:OsState):clsSeenW vw loose (sF w os)=clsGoodW vw loose:=by kernel_rfl
theorem k11 (w:World) (os:OsState):hook.obs (sF w os)=hook.val w:=by kernel_rfl
theorem size (w:World):((boot_heap w.params).isNs mainGlobals && (#[]:Array GenState).size==0,(boot_heap w.params).objs.size,(boot_heap w.params).nsMap mainGlobals "__annotations__")=(true,11,some (.ref 6)):=by kernel_rfl
theorem wellS:OpenLaw.wellSaid PySem.Challenge.rw_og0262_01=true:=by kernel_rfl
theorem kS (w:World) (os:OsState):openSeen vw loose mods xt true (sF w os)=openGood vw loose:=by
  unfold openSeen openGood
  exact looks_pair (k2 w os) (looks_pair (k3 w os) (looks_pair (k4 w os) (looks_pair (k5 w os) (looks_pair (k6 w os) (looks_pair (k7 w os) (looks_pair (k8 w os) (looks_pair (k9 w os) (k10 w os))))))))
theorem kL (w:World) (os:OsState):((staticsOk mods (boot_heap w.params) (heap_384 w.params) && namesBound pg (heap_384 w.params) && gensDone (sF w os) && laidKept (boot_heap w.params) (heap_384 w.params)),openSeen vw loose mods xt true (sF w os),hook.obs (sF w os))=(true,openGood vw loose,hook.val w):=looks_pair (k1 w os) (looks_pair (kS w os) (k11 w os))
theorem left:LeftO pg vw loose xt hook.obs hook.val 4200:=
  LeftO.of_pieces (boot_open (by kernel_rfl) (by decide) (fun s=>by kernel_rfl)) size run (by decide) fun w=>funext fun os=>kL w os
theorem k12:(chainsOk vw && opensWell PySem.Challenge.rw_og0262_01.row.prog && (frees PySem.Challenge.rw_og0262_01.row.toRowW && PySem.Challenge.rw_og0262_01.row.within.isEmpty))=true:=by kernel_rfl
noncomputable def stPos:Stmt→Pos | .FunctionDef _ _ _ _ _ _ _ _ _ p=>p | _=>q0
noncomputable def dR:DefRec:={ name:=Str.ofString "law",params:=stArgs (f 77),body:=stBody (f 77),scope:=stScope (f 77),pos:=stPos (f 77)}
theorem k13:defOf vw PySem.Challenge.rw_og0262_01.row.name=some (dR,[]):=by kernel_rfl
theorem k14:PySem.Challenge.rw_og0262_01.row.prog.theDef PySem.Challenge.rw_og0262_01.row.name=some (dR.params,dR.body,dR.scope):=by kernel_rfl
theorem k15:kwWritten? dR.params.kwonlyargs dR.params.kw_defaults=some []:=by kernel_rfl
end Mine.hd
namespace Mine
open Mine.hd
theorem hd (walk:WalkO vw loose (XL vw []) hook.says PySem.Challenge.rw_og0262_01.row.toRowW dR [] (fun f vs=>PySem.call f vs)):PySem.Challenge.rw_og0262_01.Holds:=
  holds_law wellS fun said=>holds_open (r:=PySem.Challenge.rw_og0262_01.row) left hook.of hook.keeps (fun s e=>xl_of s (Bool.and_eq_true_iff.mp e).1) XL.keeps k13 k14 k15 (fun s e=>recFacts_of (Bool.and_eq_true_iff.mp e).2) (by kernel_rfl) said k12 ⟨by kernel_rfl,by kernel_rfl,by kernel_rfl,by kernel_rfl,by kernel_rfl,by kernel_rfl⟩ ⟨[.list []],by kernel_rfl,by kernel_rfl⟩ walk
end Mine
end
section
open PySem PySem.Calls PyProof.Rows PySem.W
set_option maxHeartbeats 4000000
namespace Mine
noncomputable def fdOf (o:Obj):FuncData:=match o.data with | .func fd=>fd | _=>default
noncomputable def bodyOf (fd:FuncData):List Stmt:=match fd.body with | .stmts b=>b | _=>[]
noncomputable def fd_law_deck (P:Params):FuncData:=fdOf (Mine.hd.o_328 P)
noncomputable def fd_law_draw (P:Params):FuncData:=fdOf (Mine.hd.o_335 P)
noncomputable def fd_clear (P:Params):FuncData:=fdOf (Mine.hd.o_126 P)
noncomputable def fd_init__ (P:Params):FuncData:=fdOf (Mine.hd.o_119 P)
noncomputable def fd_close_part (P:Params):FuncData:=fdOf (Mine.hd.o_140 P)
noncomputable def fd_close_parameter (P:Params):FuncData:=fdOf (Mine.hd.o_147 P)
noncomputable def fd_put (P:Params):FuncData:=fdOf (Mine.hd.o_133 P)
noncomputable def fd_params (P:Params):FuncData:=fdOf (Mine.hd.o_152 P)
noncomputable def fd_read_params (P:Params):FuncData:=fdOf (Mine.hd.o_169 P)
noncomputable def fd_law_value (P:Params):FuncData:=fdOf (Mine.hd.o_347 P)
noncomputable def fd_law_parted (P:Params):FuncData:=fdOf (Mine.hd.o_352 P)
noncomputable def fd_law_hue (P:Params):FuncData:=fdOf (Mine.hd.o_357 P)
noncomputable def fd_law_turns (P:Params):FuncData:=fdOf (Mine.hd.o_323 P)
noncomputable def fd_law_seen (P:Params):FuncData:=fdOf (Mine.hd.o_362 P)
noncomputable def fd_law_look (P:Params):FuncData:=fdOf (Mine.hd.o_340 P)
noncomputable def fd_direct_colour (P:Params):FuncData:=fdOf (Mine.hd.o_102 P)
noncomputable def fd_pen_colour_of (P:Params):FuncData:=fdOf (Mine.hd.o_201 P)
noncomputable def fd_pen_with (P:Params):FuncData:=fdOf (Mine.hd.o_65 P)
noncomputable def fd_flags_with_under (P:Params):FuncData:=fdOf (Mine.hd.o_79 P)
noncomputable def fd_pen_sub_changed (P:Params):FuncData:=fdOf (Mine.hd.o_208 P)
noncomputable def fd_pen_told_apart (P:Params):FuncData:=fdOf (Mine.hd.o_213 P)
noncomputable def fd_pen_bits (P:Params):FuncData:=fdOf (Mine.hd.o_189 P)
noncomputable def fd_pen_plain_changed (P:Params):FuncData:=fdOf (Mine.hd.o_196 P)
noncomputable def fd_apply_sgr (P:Params):FuncData:=fdOf (Mine.hd.o_220 P)
noncomputable def fd_sgr_bit_params (P:Params):FuncData:=fdOf (Mine.hd.o_236 P)
noncomputable def fd_sgr_under_params (P:Params):FuncData:=fdOf (Mine.hd.o_243 P)
noncomputable def fd_under_of (P:Params):FuncData:=fdOf (Mine.hd.o_72 P)
noncomputable def fd_is_direct (P:Params):FuncData:=fdOf (Mine.hd.o_86 P)
noncomputable def fd_rgb_of (P:Params):FuncData:=fdOf (Mine.hd.o_93 P)
noncomputable def fd_sgr_colour_params (P:Params):FuncData:=fdOf (Mine.hd.o_229 P)
noncomputable def fd_sgr_changes (P:Params):FuncData:=fdOf (Mine.hd.o_250 P)
noncomputable def fd_pen_told (P:Params):FuncData:=fdOf (Mine.hd.o_257 P)
noncomputable def fd_decimal_octets (P:Params):FuncData:=fdOf (Mine.hd.o_58 P)
noncomputable def fd_part_octets (P:Params):FuncData:=fdOf (Mine.hd.o_176 P)
noncomputable def fd_params_octets (P:Params):FuncData:=fdOf (Mine.hd.o_181 P)
noncomputable def fd_sgr_params (P:Params):FuncData:=fdOf (Mine.hd.o_265 P)
noncomputable def fd_sgr_octets (P:Params):FuncData:=fdOf (Mine.hd.o_273 P)
noncomputable def fd_law_inside (P:Params):FuncData:=fdOf (Mine.hd.o_369 P)
noncomputable def fd_law_leads_right (P:Params):FuncData:=fdOf (Mine.hd.o_376 P)
noncomputable def fd_law (P:Params):FuncData:=fdOf (Mine.hd.o_383 P)
structure Gl (G:Top0) (K:Frag):Prop where
  g_BOLD:GlobV G "BOLD" G_BOLD
  g_FAINT:GlobV G "FAINT" G_FAINT
  g_ITALIC:GlobV G "ITALIC" G_ITALIC
  g_BLINK:GlobV G "BLINK" G_BLINK
  g_FAST:GlobV G "FAST" G_FAST
  g_INVERSE:GlobV G "INVERSE" G_INVERSE
  g_HIDDEN:GlobV G "HIDDEN" G_HIDDEN
  g_STRUCK:GlobV G "STRUCK" G_STRUCK
  g_OVERLINE:GlobV G "OVERLINE" G_OVERLINE
  g_UNDER_SHIFT:GlobV G "UNDER_SHIFT" G_UNDER_SHIFT
  g_UNDER_MASK:GlobV G "UNDER_MASK" G_UNDER_MASK
  g_NO_COLOUR:GlobV G "NO_COLOUR" G_NO_COLOUR
  g_DIRECT:GlobV G "DIRECT" G_DIRECT
  g_PLAIN:GlobV G "PLAIN" G_PLAIN
  g_FLAGS:GlobV G "FLAGS" G_FLAGS
  g_FORE:GlobV G "FORE" G_FORE
  g_BACK:GlobV G "BACK" G_BACK
  g_UNDER:GlobV G "UNDER" G_UNDER
  g_LINK:GlobV G "LINK" G_LINK
  g_FIGURE_FIRST:GlobV G "FIGURE_FIRST" G_FIGURE_FIRST
  g_FIGURE_LAST:GlobV G "FIGURE_LAST" G_FIGURE_LAST
  g_COLON:GlobV G "COLON" G_COLON
  g_SEMICOLON:GlobV G "SEMICOLON" G_SEMICOLON
  g_SGR_RESET:GlobV G "SGR_RESET" G_SGR_RESET
  g_SGR_FORE:GlobV G "SGR_FORE" G_SGR_FORE
  g_SGR_BACK:GlobV G "SGR_BACK" G_SGR_BACK
  g_SGR_UNDER:GlobV G "SGR_UNDER" G_SGR_UNDER
  g_FIRST_BRIGHT:GlobV G "FIRST_BRIGHT" G_FIRST_BRIGHT
  g_MOST_COLOUR:GlobV G "MOST_COLOUR" G_MOST_COLOUR
  g_law_pieces:GlobV G "_law_pieces" G_law_pieces
  n_len:G.mg "len"=none
  b_len:G.mb "len"=some (.builtin "len")
  n_min:G.mg "min"=none
  b_min:G.mb "min"=some (.builtin "min")
  n_max:G.mg "max"=none
  b_max:G.mb "max"=some (.builtin "max")
  n_bytes:G.mg "bytes"=none
  b_bytes:G.mb "bytes"=some (.type "bytes")
  n_int:G.mg "int"=none
  b_int:G.mb "int"=some (.type "int")
  n_list:G.mg "list"=none
  b_list:G.mb "list"=some (.type "list")
  n_range:G.mg "range"=none
  b_range:G.mb "range"=some (.type "range")
  cls:G.mg "ParamReader"=some (.ref G.cls)
  keep:keepIn K (.ref G.cls)=true
  make:makesIn K G.cls=true
noncomputable abbrev za:= @SemEs.cons
noncomputable abbrev zb:= @SemE.loc
noncomputable abbrev zc:= @SemE.int
noncomputable abbrev zd:= @SemB.cons
noncomputable abbrev ze:= @SemEs.nil
noncomputable abbrev zf:= @SemB.nil
noncomputable abbrev zg:= @Stores.loc
noncomputable abbrev zh:= @SemE.binop
noncomputable abbrev zi:= @SemT.cmp
noncomputable abbrev zj:= @SemE.idx
noncomputable abbrev zk:= @SemE.ofL
noncomputable abbrev zl:= @SemS.ret
noncomputable abbrev zm:= @SemE.gv
noncomputable abbrev zn:= @SemObj.loc
noncomputable abbrev zo:= @SemS.ite
noncomputable abbrev zp:= @SemParts.cons
noncomputable abbrev zq:= @SemS.asg
noncomputable abbrev zr:= @SemE.tup
noncomputable abbrev zs:= @SemE.fn
noncomputable abbrev zt:= @SemL.disp
noncomputable abbrev zu:= @SemE.bytes
noncomputable abbrev zv:= @SemO.some
noncomputable abbrev zw:= @Sets.cons
noncomputable abbrev zx:= @SemE.none
noncomputable abbrev zy:= @SemPart.v
noncomputable def cx_law_deck (P:Params):Cx:=⟨(fd_law_deck P).scope,[.loc "script",.loc "cells",.loc "mixed",.loc "cell"],none,true⟩
theorem d_law_deck {G:Top0} {P:Params} {K:Frag} (H:Gl G K) (W:Wr G K):SemD G 0 (cx_law_deck P) (bodyOf (fd_law_deck P)) F_law_deck_body:=
  (SemD.cons (SemS.tupR (ns:=["cells","mixed"]) (zp (zy (zk (SemL.cA rfl rfl (SemI.seq (zk (SemL.slc (zb rfl rfl rfl) SemO.none (zv zc)))) SemTs.nil (zh (SemE.int' (Bi.mk H.n_int H.b_int rfl rfl) (zb rfl rfl rfl) rfl) (zh zc zc)) (fun _ _=>rfl)))) rfl (zp (zy zc) rfl SemParts.nil)) (fun _=>(zw (zg rfl rfl) (fun h=>wpAny_bindName h) (zw (zg rfl rfl) (fun h=>wpAny_bindName h) Sets.nil))) (by decide) (fun _=>rfl) (by intro env he;cases env;cases he;rfl) rfl)
  (SemD.cons (SemS.for (SemTgt.name (zg rfl rfl)) (SemI.seq (zb rfl rfl rfl)) (zd (zq (zg rfl rfl) (zh (zh (zh (zb rfl rfl rfl) zc) (zb rfl rfl rfl)) zc) (fun _=>rfl))
  zf) (fun _ _=>rfl))
  (SemD.last (SemL.rev (zb rfl rfl rfl)) (zb rfl rfl rfl))))
noncomputable def cx_law_draw (P:Params):Cx:=⟨(fd_law_draw P).scope,[.loc "many"]++(deckFn).map .fld,some (.loc "deck",false),true⟩
theorem d_law_draw {G:Top0} {P:Params} {K:Frag} (H:Gl G K) (W:Wr G K):SemB G 0 (cx_law_draw P) (bodyOf (fd_law_draw P)) F_law_draw_body:=
  (zd (zo (SemT.neNil (SemP.item (zn rfl rfl rfl) rfl rfl (fun _ _=>⟨_,rfl⟩)) rfl) (zd (zl (zh (SemE.pop rfl (SemP.item (zn rfl rfl rfl) rfl rfl (fun _ _=>⟨_,rfl⟩)) (fun _ _=>rfl) rfl) (zb rfl rfl rfl)))
  zf) zf)
  (zd (SemS.asgItem (zn rfl rfl rfl) rfl (fun _ h=>Loc.noConfusion h) (Or.inr rfl) rfl (zh (zh (zh (SemQ.sem (SemQ.item (zn rfl rfl rfl) rfl rfl (fun _ _=>⟨_,rfl⟩))) zc) zc) zc) (fun _=>rfl))
  (zd (zl (zh (zh (SemQ.sem (SemQ.item (zn rfl rfl rfl) rfl rfl (fun _ _=>⟨_,rfl⟩))) zc) (zb rfl rfl rfl)))
  zf)))
noncomputable def cx_clear (P:Params):Cx:=⟨(fd_clear P).scope,[]++(instNames).map .fld,some (.loc "self",true),true⟩
theorem d_clear {G:Top0} {P:Params} {K:Frag} (H:Gl G K) (W:Wr G K):SemB G 0 (cx_clear P) (bodyOf (fd_clear P)) F_clear_body:=
  (zd (SemS.asgAttrL (zn rfl rfl rfl) rfl (fun _ h=>Loc.noConfusion h) W.hK W.I0 (by decide) rfl (zt ze (by decide)) (fun _=>rfl))
  (zd (SemS.asgAttrL (zn rfl rfl rfl) rfl (fun _ h=>Loc.noConfusion h) W.hK W.I0 (by decide) rfl (zt ze (by decide)) (fun _=>rfl))
  (zd (SemS.asgAttr (zn rfl rfl rfl) rfl (fun _ h=>Loc.noConfusion h) W.hK W.I0 (by decide) rfl zx (fun _=>rfl))
  (zd (SemS.asgAttr (zn rfl rfl rfl) rfl (fun _ h=>Loc.noConfusion h) W.hK W.I0 (by decide) rfl SemE.bool (fun _=>rfl))
  zf))))
noncomputable def cx_init__ (P:Params):Cx:=⟨(fd_init__ P).scope,[.loc "most",.loc "limit"]++(instNames).map .fld,some (.loc "self",true),true⟩
theorem d_init__ {G:Top0} {P:Params} {K:Frag} (H:Gl G K) (W:Wr G K) (f_clear:MethO G K 1 "clear" instNames 0 F_clear):SemB G 1 (cx_init__ P) (bodyOf (fd_init__ P)) F_init___body:=
  (zd (SemS.asgAttr (zn rfl rfl rfl) rfl (fun _ h=>Loc.noConfusion h) W.hK W.I0 (by decide) rfl (zb rfl rfl rfl) (fun _=>rfl))
  (zd (SemS.asgAttr (zn rfl rfl rfl) rfl (fun _ h=>Loc.noConfusion h) W.hK W.I0 (by decide) rfl (zb rfl rfl rfl) (fun _=>rfl))
  (zd (SemS.expr (SemE.m0 (pre:=[.loc "most",.loc "limit"]) W f_clear (by decide) (zn rfl rfl rfl) (CxObj.of (pre:=[.loc "most",.loc "limit"]) rfl rfl rfl rfl) rfl) (fun _=>rfl))
  zf)))
noncomputable def cx_close_part (P:Params):Cx:=⟨(fd_close_part P).scope,[]++(instNames).map .fld,some (.loc "self",true),true⟩
theorem d_close_part {G:Top0} {P:Params} {K:Frag} (H:Gl G K) (W:Wr G K):SemB G 0 (cx_close_part P) (bodyOf (fd_close_part P)) F_close_part_body:=
  (zd (zo (zi (SemE.lenS (Bi.mk H.n_len H.b_len rfl rfl) (SemP.attr (zn rfl rfl rfl) rfl W.hK W.I0 (by decide) rfl) rfl) (SemQ.sem (SemQ.attr (zn rfl rfl rfl) rfl W.hK W.I0 (by decide) rfl)) rfl) (zd (SemS.app rfl (SemP.attr (zn rfl rfl rfl) rfl W.hK W.I0 (by decide) rfl) (.inr (SemQ.attr (zn rfl rfl rfl) rfl W.hK W.I0 (by decide) rfl)) rfl (fun _ _=>rfl) rfl)
  zf) zf)
  (zd (SemS.asgAttr (zn rfl rfl rfl) rfl (fun _ h=>Loc.noConfusion h) W.hK W.I0 (by decide) rfl zx (fun _=>rfl))
  zf))
noncomputable def cx_close_parameter (P:Params):Cx:=⟨(fd_close_parameter P).scope,[]++(instNames).map .fld,some (.loc "self",true),true⟩
theorem d_close_parameter {G:Top0} {P:Params} {K:Frag} (H:Gl G K) (W:Wr G K):SemB G 0 (cx_close_parameter P) (bodyOf (fd_close_parameter P)) F_close_parameter_body:=
  (zd (zo (zi (SemE.lenS (Bi.mk H.n_len H.b_len rfl rfl) (SemP.attr (zn rfl rfl rfl) rfl W.hK W.I0 (by decide) rfl) rfl) (SemQ.sem (SemQ.attr (zn rfl rfl rfl) rfl W.hK W.I0 (by decide) rfl)) rfl) (zd (SemS.app rfl (SemP.attr (zn rfl rfl rfl) rfl W.hK W.I0 (by decide) rfl) (.inr (SemQ.attr (zn rfl rfl rfl) rfl W.hK W.I0 (by decide) rfl)) rfl (fun _ _=>rfl) rfl)
  zf) zf)
  (zd (SemS.asgAttrL (zn rfl rfl rfl) rfl (fun _ h=>Loc.noConfusion h) W.hK W.I0 (by decide) rfl (zt ze (by decide)) (fun _=>rfl))
  zf))
noncomputable def cx_put (P:Params):Cx:=⟨(fd_put P).scope,[.loc "octet",.loc "ahead"]++(instNames).map .fld,some (.loc "self",true),true⟩
theorem d_put {G:Top0} {P:Params} {K:Frag} (H:Gl G K) (W:Wr G K) (f_close_parameter:MethO G K 1 "close_parameter" instNames 0 F_close_parameter) (f_close_part:MethO G K 1 "close_part" instNames 0 F_close_part):SemB G 1 (cx_put P) (bodyOf (fd_put P)) F_put_body:=
  (zd (zo (SemT.cmp2 (zm H.g_FIGURE_FIRST rfl rfl) (zb rfl rfl rfl) (zm H.g_FIGURE_LAST rfl rfl) rfl) (zd (zq (zg rfl rfl) (SemE.ite (zi (SemQ.sem (SemQ.attr (zn rfl rfl rfl) rfl W.hK W.I0 (by decide) rfl)) zx rfl) zc (SemQ.sem (SemQ.attr (zn rfl rfl rfl) rfl W.hK W.I0 (by decide) rfl))) (fun _=>rfl))
  (zd (SemS.asgAttr (zn rfl rfl rfl) rfl (fun _ h=>Loc.noConfusion h) W.hK W.I0 (by decide) rfl (SemE.min (Bi.mk H.n_min H.b_min rfl rfl) (SemQ.sem (SemQ.attr (zn rfl rfl rfl) rfl W.hK W.I0 (by decide) rfl)) (zh (zh (zh (zb rfl rfl rfl) zc) (zb rfl rfl rfl)) (zm H.g_FIGURE_FIRST rfl rfl)) rfl rfl) (fun _=>rfl))
  zf)) (zd (zo (zi (zb rfl rfl rfl) (zm H.g_COLON rfl rfl) rfl) (zd (SemS.expr (SemE.m0 (pre:=[.loc "octet",.loc "ahead"]) W f_close_part (by decide) (zn rfl rfl rfl) (CxObj.of (pre:=[.loc "octet",.loc "ahead"]) rfl rfl rfl rfl) rfl) (fun _=>rfl))
  zf) (zd (zo (zi (zb rfl rfl rfl) (zm H.g_SEMICOLON rfl rfl) rfl) (zd (SemS.expr (SemE.m0 (pre:=[.loc "octet",.loc "ahead"]) W f_close_part (by decide) (zn rfl rfl rfl) (CxObj.of (pre:=[.loc "octet",.loc "ahead"]) rfl rfl rfl rfl) rfl) (fun _=>rfl))
  (zd (SemS.expr (SemE.m0 (pre:=[.loc "octet",.loc "ahead"]) W f_close_parameter (by decide) (zn rfl rfl rfl) (CxObj.of (pre:=[.loc "octet",.loc "ahead"]) rfl rfl rfl rfl) rfl) (fun _=>rfl))
  zf)) (zd (zl SemE.bool)
  zf))
  zf))
  zf))
  (zd (SemS.asgAttr (zn rfl rfl rfl) rfl (fun _ h=>Loc.noConfusion h) W.hK W.I0 (by decide) rfl SemE.bool (fun _=>rfl))
  (zd (zl SemE.bool)
  zf)))
noncomputable def cx_params (P:Params):Cx:=⟨(fd_params P).scope,[.loc "parts",.loc "found"]++(instNames).map .fld,some (.loc "self",true),true⟩
theorem d_params {G:Top0} {P:Params} {K:Frag} (H:Gl G K) (W:Wr G K):SemB G 0 (cx_params P) (bodyOf (fd_params P)) F_params_body:=
  (zd (zo (SemT.not (SemT.val (SemQ.sem (SemQ.attr (zn rfl rfl rfl) rfl W.hK W.I0 (by decide) rfl)) (fun _ _=>rfl))) (zd (zl (zk (zt ze (by decide))))
  zf) zf)
  (zd (SemS.asgL (zg rfl rfl) (SemL.of (Bi.mk H.n_list H.b_list rfl rfl) (SemQ.sem (SemQ.attr (zn rfl rfl rfl) rfl W.hK W.I0 (by decide) rfl)) rfl) (fun _=>rfl))
  (zd (zo (zi (SemE.lenS (Bi.mk H.n_len H.b_len rfl rfl) (SemP.loc rfl rfl rfl) rfl) (SemQ.sem (SemQ.attr (zn rfl rfl rfl) rfl W.hK W.I0 (by decide) rfl)) rfl) (zd (SemS.app rfl (SemP.loc rfl rfl rfl) (.inl ⟨(SemQ.sem (SemQ.attr (zn rfl rfl rfl) rfl W.hK W.I0 (by decide) rfl)),_,rfl⟩) rfl (fun _ _=>rfl) rfl)
  zf) zf)
  (zd (SemS.cAL rfl rfl (SemI.seq (SemQ.sem (SemQ.attr (zn rfl rfl rfl) rfl W.hK W.I0 (by decide) rfl))) SemTs.nil (zk (SemL.of (Bi.mk H.n_list H.b_list rfl rfl) (zb rfl rfl rfl) rfl)) (fun _ _=>rfl) (zg rfl rfl) (swaps_of rfl))
  (zd (zo (zi (SemE.lenS (Bi.mk H.n_len H.b_len rfl rfl) (SemP.loc rfl rfl rfl) rfl) (SemQ.sem (SemQ.attr (zn rfl rfl rfl) rfl W.hK W.I0 (by decide) rfl)) rfl) (zd (SemS.app rfl (SemP.loc rfl rfl rfl) (.inl ⟨(zb rfl rfl rfl),_,rfl⟩) rfl (fun _ _=>rfl) rfl)
  zf) zf)
  (zd (zl (zb rfl rfl rfl))
  zf))))))
noncomputable def cx0_read_params (P:Params):Cx:=⟨(fd_read_params P).scope,[.loc "octets",.loc "most",.loc "limit",.loc "octet"]++[.loc "reader"],none,true⟩
noncomputable def cx_read_params (P:Params):Cx:=⟨(fd_read_params P).scope,[.loc "octets",.loc "most",.loc "limit",.loc "octet"]++(instNames).map .fld,some (.loc "reader",true),true⟩
theorem d_read_params {G:Top0} {P:Params} {K:Frag} (H:Gl G K) (W:Wr G K) (f___init__:MethO G K 2 "__init__" instNames 2 F_init) (f_params:MethO G K 1 "params" instNames 0 F_params) (f_put:MethO G K 2 "put" instNames 1 F_put):SemW G 3 (cx0_read_params P) (bodyOf (fd_read_params P)) F_read_params_body:=
  (by
  refine SemW.newM (cx:=cx_read_params P) (pre:=[.loc "octets",.loc "most",.loc "limit",.loc "octet"]) (p:= .loc "reader") W ?_ ?_ ?_ H.cls ?_ ?_ H.keep H.make f___init__ ?_ ?_ ?_ ?_ ?_ ?_ ?_
  · exact ⟨rfl,CxObj.of rfl rfl rfl rfl,rfl,rfl,rfl,of_decide_eq_true rfl,of_decide_eq_true rfl⟩
  · rfl
  · exact StoresG.loc rfl rfl
  · rfl
  · rfl
  · decide
  · exact (za (zb rfl rfl rfl) (za (zb rfl rfl rfl) ze rfl) rfl)
  · rfl
  · rfl
  · exact (fun _ _=>rfl)
  · exact (fun _=>rfl)
  · exact (SemB.toW (zd (SemS.for (SemTgt.name (zg rfl rfl)) (SemI.seq (zb rfl rfl rfl)) (zd (SemS.expr (SemE.m1 (pre:=[.loc "octets",.loc "most",.loc "limit",.loc "octet"]) W f_put (by decide) (zn rfl rfl rfl) (CxObj.of (pre:=[.loc "octets",.loc "most",.loc "limit",.loc "octet"]) rfl rfl rfl rfl) (za (zb rfl rfl rfl) ze rfl) rfl rfl rfl) (fun _=>rfl))
  zf) (fun _ _=>rfl))
  (zd (zl (SemE.m0 (pre:=[.loc "octets",.loc "most",.loc "limit",.loc "octet"]) W f_params (by decide) (zn rfl rfl rfl) (CxObj.of (pre:=[.loc "octets",.loc "most",.loc "limit",.loc "octet"]) rfl rfl rfl rfl) rfl))
  zf))))
noncomputable def cx_law_value (P:Params):Cx:=⟨(fd_law_value P).scope,[.loc "octets",.loc "number",.loc "octet"],none,true⟩
theorem d_law_value {G:Top0} {P:Params} {K:Frag} (H:Gl G K) (W:Wr G K):SemB G 0 (cx_law_value P) (bodyOf (fd_law_value P)) F_law_value_body:=
  (zd (zq (zg rfl rfl) zx (fun _=>rfl))
  (zd (SemS.for (SemTgt.name (zg rfl rfl)) (SemI.seq (zb rfl rfl rfl)) (zd (zq (zg rfl rfl) (SemE.min (Bi.mk H.n_min H.b_min rfl rfl) (zh (zh (zh (SemE.ite (zi (zb rfl rfl rfl) zx rfl) zc (zb rfl rfl rfl)) zc) (zb rfl rfl rfl)) zc) zc rfl rfl) (fun _=>rfl))
  zf) (fun _ _=>rfl))
  (zd (zl (zb rfl rfl rfl))
  zf)))
noncomputable def cx_law_parted (P:Params):Cx:=⟨(fd_law_parted P).scope,[.loc "octets",.loc "kept"],none,true⟩
theorem d_law_parted {G:Top0} {P:Params} {K:Frag} (H:Gl G K) (W:Wr G K) (f_law_value:FnV G 1 "_law_value" 1 F_law_value):SemB G 1 (cx_law_parted P) (bodyOf (fd_law_parted P)) F_law_parted_body:=
  (zd (zq (zg rfl rfl) (SemE.bytes' (Bi.mk H.n_bytes H.b_bytes rfl rfl) (zk (SemL.cA rfl rfl (SemI.seq (zb rfl rfl rfl)) (SemTs.one (SemT.cmp2 zc (zb rfl rfl rfl) zc rfl)) (zb rfl rfl rfl) (fun _ _=>rfl))) rfl) (fun _=>rfl))
  (zd (zo (zi (zb rfl rfl rfl) zu rfl) (zd (zl (zk (zt (za (zk (zt (za zx ze rfl) (by decide))) ze rfl) (by decide))))
  zf) zf)
  (zd (zl (zk (SemL.slc (zk (SemL.cA rfl rfl (SemI.seq (zk (SemL.split (zb rfl rfl rfl) zu rfl (fun _ _=>rfl) rfl))) SemTs.nil (zk (SemL.cA rfl rfl (SemI.seq (zk (SemL.split (zb rfl rfl rfl) zu rfl (fun _ _=>rfl) rfl))) SemTs.nil (zs f_law_value (by decide) (za (zb rfl rfl rfl) ze rfl) rfl rfl rfl rfl) (fun _ _=>rfl))) (fun _ _=>rfl))) SemO.none (zv zc))))
  zf)))
noncomputable def cx_law_hue (P:Params):Cx:=⟨(fd_law_hue P).scope,[.loc "kind",.loc "parts",.loc "known",.loc "wanted"],none,true⟩
theorem d_law_hue {G:Top0} {P:Params} {K:Frag} (H:Gl G K) (W:Wr G K):SemB G 0 (cx_law_hue P) (bodyOf (fd_law_hue P)) F_law_hue_body:=
  (zd (SemS.cA rfl rfl (SemI.seq (zb rfl rfl rfl)) SemTs.nil (SemE.ite (zi (zb rfl rfl rfl) zx rfl) zc (zb rfl rfl rfl)) (fun _ _=>rfl) (zg rfl rfl) (swaps_of rfl))
  (zd (zq (zg rfl rfl) (SemE.get (by refine SemE.dctK ?_ rfl rfl;exact (KV.cons zc zc (KV.cons zc zc KV.nil))) (zb rfl rfl rfl) zc rfl rfl (fun _ _=>rfl) rfl) (fun _=>rfl))
  (zd (zo (SemT.all (SemAll.or (zi (zb rfl rfl rfl) zc rfl) (SemAll.or (zi (SemE.len (Bi.mk H.n_len H.b_len rfl rfl) (zb rfl rfl rfl) rfl) (zb rfl rfl rfl) rfl) (SemAll.or1 (zi (SemE.max (Bi.mk H.n_max H.b_max rfl rfl) (zb rfl rfl rfl) rfl) zc rfl))))) (zd (zl zx)
  zf) zf)
  (zd (zl (SemE.ite (zi (zb rfl rfl rfl) zc rfl) (zj (zb rfl rfl rfl) zc (fun _ _=>⟨_,rfl⟩)) (zh (zh (zh zc (zh zc (zj (zb rfl rfl rfl) zc (fun _ _=>⟨_,rfl⟩)))) (zh zc (zj (zb rfl rfl rfl) zc (fun _ _=>⟨_,rfl⟩)))) (zj (zb rfl rfl rfl) zc (fun _ _=>⟨_,rfl⟩)))))
  zf))))
noncomputable def cx_law_turns (P:Params):Cx:=⟨(fd_law_turns P).scope,[],none,true⟩
theorem d_law_turns {G:Top0} {P:Params} {K:Frag} (H:Gl G K) (W:Wr G K):SemB G 0 (cx_law_turns P) (bodyOf (fd_law_turns P)) F_law_turns_body:=
  (zd (zl (by refine SemE.dctL ?_ rfl;exact (KVL.cons zc (zr (za zc (za zc ze rfl) rfl) (by decide)) (KVL.cons zc (zr (za zc (za zc ze rfl) rfl) (by decide)) (KVL.cons zc (zr (za zc (za zc ze rfl) rfl) (by decide)) (KVL.cons zc (zr (za zc (za zc ze rfl) rfl) (by decide)) (KVL.cons zc (zr (za zc (za zc ze rfl) rfl) (by decide)) (KVL.cons zc (zr (za zc (za zc ze rfl) rfl) (by decide)) (KVL.cons zc (zr (za zc (za zc ze rfl) rfl) (by decide)) (KVL.cons zc (zr (za zc (za zc ze rfl) rfl) (by decide)) (KVL.cons zc (zr (za zc (za zc ze rfl) rfl) (by decide)) (KVL.cons zc (zr (za zc (za zc ze rfl) rfl) (by decide)) (KVL.cons zc (zr (za zc (za zc ze rfl) rfl) (by decide)) (KVL.cons zc (zr (za zc (za zc ze rfl) rfl) (by decide)) (KVL.cons zc (zr (za zc (za zc ze rfl) rfl) (by decide)) (KVL.cons zc (zr (za zc (za zc ze rfl) rfl) (by decide)) (KVL.cons zc (zr (za zc (za zc ze rfl) rfl) (by decide)) (KVL.cons zc (zr (za zc (za zc ze rfl) rfl) (by decide)) KVL.nil))))))))))))))))))
  zf)
noncomputable def cx_law_seen (P:Params):Cx:=⟨(fd_law_seen P).scope,[.loc "look",.loc "octets",.loc "hues",.loc "low",.loc "line",.loc "rows",.loc "at",.loc "row",.loc "number",.loc "place",.loc "hue",.loc "kind",.loc "many",.loc "first",.loc "bright"],none,true⟩
theorem d_law_seen {G:Top0} {P:Params} {K:Frag} (H:Gl G K) (W:Wr G K) (f_law_hue:FnV G 1 "_law_hue" 2 F_law_hue) (f_law_parted:FnV G 2 "_law_parted" 1 F_law_parted) (f_law_turns:FnV G 1 "_law_turns" 0 F_law_turns):SemB G 2 (cx_law_seen P) (bodyOf (fd_law_seen P)) F_law_seen_body:=
  (zd (SemS.tupR (ns:=["hues","low","line"]) (zp (SemPart.l (SemL.of (Bi.mk H.n_list H.b_list rfl rfl) (SemE.slc (zb rfl rfl rfl) (zv zc) (zv zc)) rfl)) rfl (zp (zy (zh (zj (zb rfl rfl rfl) zc (fun _ _=>⟨_,rfl⟩)) zc)) rfl (zp (zy (zh (zj (zb rfl rfl rfl) zc (fun _ _=>⟨_,rfl⟩)) zc)) rfl SemParts.nil))) (fun _=>(zw (zg rfl rfl) (fun h=>wpAny_bindName h) (zw (zg rfl rfl) (fun h=>wpAny_bindName h) (zw (zg rfl rfl) (fun h=>wpAny_bindName h) Sets.nil)))) (by decide) (fun _=>rfl) (by intro env he;cases env;cases he;rfl) rfl)
  (zd (SemS.tupR (ns:=["rows","at"]) (zp (zy (zs f_law_parted (by decide) (za (zb rfl rfl rfl) ze rfl) rfl rfl rfl rfl)) rfl (zp (zy zc) rfl SemParts.nil)) (fun _=>(zw (zg rfl rfl) (fun h=>wpAny_bindName h) (zw (zg rfl rfl) (fun h=>wpAny_bindName h) Sets.nil))) (by decide) (fun _=>rfl) (by intro env he;cases env;cases he;rfl) rfl)
  (zd (SemS.whl (zi (zb rfl rfl rfl) (SemE.len (Bi.mk H.n_len H.b_len rfl rfl) (zb rfl rfl rfl) rfl) rfl) (zd (SemS.tupR (ns:=["row","at"]) (zp (zy (zj (zb rfl rfl rfl) (zb rfl rfl rfl) (fun _ _=>⟨_,rfl⟩))) rfl (zp (zy (zh (zb rfl rfl rfl) zc)) rfl SemParts.nil)) (fun _=>(zw (zg rfl rfl) (fun h=>wpAny_bindName h) (zw (zg rfl rfl) (fun h=>wpAny_bindName h) Sets.nil))) (by decide) (fun _=>rfl) (by intro env he;cases env;cases he;rfl) rfl)
  (zd (zq (zg rfl rfl) (SemE.ite (zi (zj (zb rfl rfl rfl) zc (fun _ _=>⟨_,rfl⟩)) zx rfl) (zj (zb rfl rfl rfl) zc (fun _ _=>⟨_,rfl⟩)) zc) (fun _=>rfl))
  (zd (zo (zi (zb rfl rfl rfl) (zr (za zc (za zc (za zc ze rfl) rfl) rfl) (by decide)) rfl) (zd (zq (zg rfl rfl) (SemE.index (zr (za zc (za zc (za zc ze rfl) rfl) rfl) (by decide)) (zb rfl rfl rfl) rfl (fun _ _=>rfl) rfl) (fun _=>rfl))
  (zd (zo (zi (SemE.len (Bi.mk H.n_len H.b_len rfl rfl) (zb rfl rfl rfl) rfl) zc rfl) (zd (zq (zg rfl rfl) (zs f_law_hue (by decide) (za (zj (zb rfl rfl rfl) zc (fun _ _=>⟨_,rfl⟩)) (za (SemE.ite (SemT.all (SemAll.and (zi (zj (zb rfl rfl rfl) zc (fun _ _=>⟨_,rfl⟩)) zc rfl) (SemAll.and1 (zi (SemE.len (Bi.mk H.n_len H.b_len rfl rfl) (zb rfl rfl rfl) rfl) zc rfl)))) (zk (SemL.slc (zb rfl rfl rfl) (zv zc) SemO.none)) (zk (SemL.slc (zb rfl rfl rfl) (zv zc) SemO.none))) ze rfl) rfl) rfl rfl rfl rfl) (fun _=>rfl))
  zf) (zd (zq (zg rfl rfl) (SemE.ite (zi (zb rfl rfl rfl) (SemE.len (Bi.mk H.n_len H.b_len rfl rfl) (zb rfl rfl rfl) rfl) rfl) (zj (zj (zb rfl rfl rfl) (zb rfl rfl rfl) (fun _ _=>⟨_,rfl⟩)) zc (fun _ _=>⟨_,rfl⟩)) zx) (fun _=>rfl))
  (zd (zq (zg rfl rfl) (SemE.get (by refine SemE.dctK ?_ rfl rfl;exact (KV.cons zc zc (KV.cons zc zc KV.nil))) (zb rfl rfl rfl) zc rfl rfl (fun _ _=>rfl) rfl) (fun _=>rfl))
  (zd (zq (zg rfl rfl) (zs f_law_hue (by decide) (za (zb rfl rfl rfl) (za (zk (SemL.cA rfl rfl (SemI.seq (zk (SemL.slc (zb rfl rfl rfl) (zv (zh (zb rfl rfl rfl) zc)) (zv (zh (zh (zb rfl rfl rfl) zc) (zb rfl rfl rfl)))))) SemTs.nil (zj (zb rfl rfl rfl) zc (fun _ _=>⟨_,rfl⟩)) (fun _ _=>rfl))) ze rfl) rfl) rfl rfl rfl rfl) (fun _=>rfl))
  (zd (zq (zg rfl rfl) (zh (zh (zb rfl rfl rfl) zc) (zb rfl rfl rfl)) (fun _=>rfl))
  zf)))))
  (zd (SemS.setIdx rfl (SemP.loc rfl rfl rfl) (zb rfl rfl rfl) Still.var (SemE.ite (zi (zb rfl rfl rfl) zx rfl) (SemE.getS rfl (SemP.loc rfl rfl rfl) (zb rfl rfl rfl) Still.var (fun _ _=>⟨_,rfl⟩)) (zb rfl rfl rfl)) (fun _=>rfl))
  zf))) (zd (zo (zi (SemE.len (Bi.mk H.n_len H.b_len rfl rfl) (zb rfl rfl rfl) rfl) zc rfl) (zd (zo (SemT.all (SemAll.and (zi (zb rfl rfl rfl) zc rfl) (SemAll.and (zi (SemE.len (Bi.mk H.n_len H.b_len rfl rfl) (zb rfl rfl rfl) rfl) zc rfl) (SemAll.and1 (zi (zj (zb rfl rfl rfl) zc (fun _ _=>⟨_,rfl⟩)) (zr (za zc (za zc (za zc (za zc (za zc (za zc ze rfl) rfl) rfl) rfl) rfl) rfl) (by decide)) rfl))))) (zd (zq (zg rfl rfl) (zj (zb rfl rfl rfl) zc (fun _ _=>⟨_,rfl⟩)) (fun _=>rfl))
  zf) zf)
  zf) (zd (zo (zi (zb rfl rfl rfl) zc rfl) (zd (SemS.tupR (ns:=["hues","low","line"]) (zp (SemPart.l (zt (za (SemE.un zc) (za (SemE.un zc) (za (SemE.un zc) ze rfl) rfl) rfl) (by decide))) rfl (zp (zy zc) rfl (zp (zy zc) rfl SemParts.nil))) (fun _=>(zw (zg rfl rfl) (fun h=>wpAny_bindName h) (zw (zg rfl rfl) (fun h=>wpAny_bindName h) (zw (zg rfl rfl) (fun h=>wpAny_bindName h) Sets.nil)))) (by decide) (fun _=>rfl) (by intro env he;cases env;cases he;rfl) rfl)
  zf) (zd (zo (zi (zb rfl rfl rfl) (zr (za zc (za zc (za zc ze rfl) rfl) rfl) (by decide)) rfl) (zd (zq (zg rfl rfl) (zj (by refine SemE.dctK ?_ rfl rfl;exact (KV.cons zc zc (KV.cons zc zc (KV.cons zc zc KV.nil)))) (zb rfl rfl rfl) (fun _ _=>⟨_,rfl⟩)) (fun _=>rfl))
  zf) (zd (zo (zi (zb rfl rfl rfl) (SemE.fn0 f_law_turns (by decide) rfl rfl) rfl) (zd (zq (zg rfl rfl) (zh (zh (zb rfl rfl rfl) (zj (zj (SemE.fn0 f_law_turns (by decide) rfl rfl) (zb rfl rfl rfl) (fun _ _=>⟨_,rfl⟩)) zc (fun _ _=>⟨_,rfl⟩))) (zh zc (zj (zj (SemE.fn0 f_law_turns (by decide) rfl rfl) (zb rfl rfl rfl) (fun _ _=>⟨_,rfl⟩)) zc (fun _ _=>⟨_,rfl⟩)))) (fun _=>rfl))
  zf) (zd (SemS.for (SemTgt.tup (Names.cons (zg rfl rfl) (Names.cons (zg rfl rfl) (Names.cons (zg rfl rfl) Names.nil)))) (SemI.seq (zr (za (zr (za zc (za zc (za zc ze rfl) rfl) rfl) (by decide)) (za (zr (za zc (za zc (za zc ze rfl) rfl) rfl) (by decide)) (za (zr (za zc (za zc (za zc ze rfl) rfl) rfl) (by decide)) ze rfl) rfl) rfl) (by decide))) (zd (zo (SemT.all (SemAll.and (zi (zb rfl rfl rfl) zc rfl) (SemAll.and1 (SemT.all (SemAll.or (SemT.cmp2 (zb rfl rfl rfl) (zb rfl rfl rfl) (zh (zb rfl rfl rfl) zc) rfl) (SemAll.or1 (SemT.cmp2 (zb rfl rfl rfl) (zb rfl rfl rfl) (zh (zb rfl rfl rfl) zc) rfl))))))) (zd (SemS.setIdx rfl (SemP.loc rfl rfl rfl) (zb rfl rfl rfl) Still.var (SemE.ite (zi (zb rfl rfl rfl) (zb rfl rfl rfl) rfl) (zh (zb rfl rfl rfl) (zb rfl rfl rfl)) (zh (zh (zb rfl rfl rfl) (zb rfl rfl rfl)) zc)) (fun _=>rfl))
  zf) zf)
  (zd (zo (zi (zb rfl rfl rfl) (zh (zb rfl rfl rfl) zc) rfl) (zd (SemS.setIdx rfl (SemP.loc rfl rfl rfl) (zb rfl rfl rfl) Still.var (SemE.un zc) (fun _=>rfl))
  zf) zf)
  zf)) (fun _ _=>rfl))
  zf))
  zf))
  zf))
  zf))
  zf))
  zf))))
  (zd (zl (zr (za (zh (zb rfl rfl rfl) (zh zc (zb rfl rfl rfl))) (za (SemE.getS rfl (SemP.loc rfl rfl rfl) zc Still.cst (fun _ _=>⟨_,rfl⟩)) (za (SemE.getS rfl (SemP.loc rfl rfl rfl) zc Still.cst (fun _ _=>⟨_,rfl⟩)) (za (SemE.getS rfl (SemP.loc rfl rfl rfl) zc Still.cst (fun _ _=>⟨_,rfl⟩)) (za (zj (zb rfl rfl rfl) zc (fun _ _=>⟨_,rfl⟩)) ze rfl) rfl) rfl) rfl) rfl) (by decide)))
  zf))))
noncomputable def cx_law_look (P:Params):Cx:=⟨(fd_law_look P).scope,[.cell "some",.loc "hues"]++(deckFn).map .fld,some (.cell "deck",false),true⟩
theorem d_law_look {G:Top0} {P:Params} {K:Frag} (H:Gl G K) (W:Wr G K) (f_law_draw:FnO G 1 "_law_draw" false deckFn 1 F_law_draw):SemB G 1 (cx_law_look P) (bodyOf (fd_law_look P)) F_law_look_body:=
  (zd (zq (Stores.cell rfl rfl rfl) (zr (za (SemE.un zc) (za zc (za zc (za zc (za (zh zc zc) ze rfl) rfl) rfl) rfl) rfl) (by decide)) (fun _=>rfl))
  (zd (SemS.cB (pre:=[.cell "some",.loc "hues"]) ["some"] (CxObj.of (pre:=[.cell "some",.loc "hues"]) rfl rfl rfl rfl) rfl (of_decide_eq_true rfl) (of_decide_eq_true rfl) ⟨rfl,by intro j n i h1 h2;match j,h1,h2 with | 0,h1,h2=>cases h1;cases h2;rfl⟩ rfl (SemI.range (Bi.mk H.n_range H.b_range rfl rfl) zc rfl) SemTs.nil (zj (SemE.cell rfl rfl rfl) (SemE.fnO (pre:=[.loc "turn",.cell "some"]) f_law_draw (by decide) (CxObj.of (pre:=[.loc "turn",.cell "some"]) rfl rfl rfl rfl) (SemObj.cell rfl rfl rfl) (za (SemE.len (Bi.mk H.n_len H.b_len rfl rfl) (SemE.cell rfl rfl rfl) rfl) ze rfl) rfl rfl rfl rfl) (fun _ _=>⟨_,rfl⟩)) (fun _ _=>rfl) (zg rfl rfl) (swaps_of rfl))
  (zd (zl (zr (za (zh (SemE.fnO (pre:=[.cell "some",.loc "hues"]) f_law_draw (by decide) (CxObj.of (pre:=[.cell "some",.loc "hues"]) rfl rfl rfl rfl) (SemObj.cell rfl rfl rfl) (za zc ze rfl) rfl rfl rfl rfl) (zh zc (SemE.fnO (pre:=[.cell "some",.loc "hues"]) f_law_draw (by decide) (CxObj.of (pre:=[.cell "some",.loc "hues"]) rfl rfl rfl rfl) (SemObj.cell rfl rfl rfl) (za zc ze rfl) rfl rfl rfl rfl))) (za (zj (zb rfl rfl rfl) zc (fun _ _=>⟨_,rfl⟩)) (za (zj (zb rfl rfl rfl) zc (fun _ _=>⟨_,rfl⟩)) (za (zj (zb rfl rfl rfl) zc (fun _ _=>⟨_,rfl⟩)) (za (SemE.fnO (pre:=[.cell "some",.loc "hues"]) f_law_draw (by decide) (CxObj.of (pre:=[.cell "some",.loc "hues"]) rfl rfl rfl rfl) (SemObj.cell rfl rfl rfl) (za zc ze rfl) rfl rfl rfl rfl) ze rfl) rfl) rfl) rfl) rfl) (by decide)))
  zf)))
noncomputable def cx_direct_colour (P:Params):Cx:=⟨(fd_direct_colour P).scope,[.loc "red",.loc "green",.loc "blue"],none,true⟩
theorem d_direct_colour {G:Top0} {P:Params} {K:Frag} (H:Gl G K) (W:Wr G K):SemB G 0 (cx_direct_colour P) (bodyOf (fd_direct_colour P)) F_direct_colour_body:=
  (zd (zl (zh (zm H.g_DIRECT rfl rfl) (zh (zh (zh (zb rfl rfl rfl) zc) (zh (zb rfl rfl rfl) zc)) (zb rfl rfl rfl))))
  zf)
noncomputable def cx_pen_colour_of (P:Params):Cx:=⟨(fd_pen_colour_of P).scope,[.loc "kind",.loc "parts",.loc "numbers"],none,true⟩
theorem d_pen_colour_of {G:Top0} {P:Params} {K:Frag} (H:Gl G K) (W:Wr G K) (f_direct_colour:FnV G 1 "direct_colour" 3 F_direct_colour):SemB G 1 (cx_pen_colour_of P) (bodyOf (fd_pen_colour_of P)) F_pen_colour_of_body:=
  (zd (SemS.cA rfl rfl (SemI.seq (zb rfl rfl rfl)) SemTs.nil (SemE.ite (zi (zb rfl rfl rfl) zx rfl) zc (zb rfl rfl rfl)) (fun _ _=>rfl) (zg rfl rfl) (swaps_of rfl))
  (zd (zo (SemT.all (SemAll.and (zi (zb rfl rfl rfl) zc rfl) (SemAll.and (zi (SemE.len (Bi.mk H.n_len H.b_len rfl rfl) (zb rfl rfl rfl) rfl) zc rfl) (SemAll.and1 (zi (zj (zb rfl rfl rfl) zc (fun _ _=>⟨_,rfl⟩)) (zm H.g_MOST_COLOUR rfl rfl) rfl))))) (zd (zl (zj (zb rfl rfl rfl) zc (fun _ _=>⟨_,rfl⟩)))
  zf) zf)
  (zd (zo (SemT.all (SemAll.and (zi (zb rfl rfl rfl) zc rfl) (SemAll.and (zi (SemE.len (Bi.mk H.n_len H.b_len rfl rfl) (zb rfl rfl rfl) rfl) zc rfl) (SemAll.and1 (zi (SemE.max (Bi.mk H.n_max H.b_max rfl rfl) (zk (SemL.slc (zb rfl rfl rfl) SemO.none (zv zc))) rfl) (zm H.g_MOST_COLOUR rfl rfl) rfl))))) (zd (zl (zs f_direct_colour (by decide) (za (zj (zb rfl rfl rfl) zc (fun _ _=>⟨_,rfl⟩)) (za (zj (zb rfl rfl rfl) zc (fun _ _=>⟨_,rfl⟩)) (za (zj (zb rfl rfl rfl) zc (fun _ _=>⟨_,rfl⟩)) ze rfl) rfl) rfl) rfl rfl rfl rfl))
  zf) zf)
  (zd (zl zx)
  zf))))
noncomputable def cx_pen_with (P:Params):Cx:=⟨(fd_pen_with P).scope,[.loc "pen",.loc "place",.loc "value"],none,true⟩
theorem d_pen_with {G:Top0} {P:Params} {K:Frag} (H:Gl G K) (W:Wr G K):SemB G 0 (cx_pen_with P) (bodyOf (fd_pen_with P)) F_pen_with_body:=
  (zd (zl (zh (zh (SemE.slc (zb rfl rfl rfl) SemO.none (zv (zb rfl rfl rfl))) (zr (za (zb rfl rfl rfl) ze rfl) (by decide))) (SemE.slc (zb rfl rfl rfl) (zv (zh (zb rfl rfl rfl) zc)) SemO.none)))
  zf)
noncomputable def cx_flags_with_under (P:Params):Cx:=⟨(fd_flags_with_under P).scope,[.loc "flags",.loc "kind"],none,true⟩
theorem d_flags_with_under {G:Top0} {P:Params} {K:Frag} (H:Gl G K) (W:Wr G K):SemB G 0 (cx_flags_with_under P) (bodyOf (fd_flags_with_under P)) F_flags_with_under_body:=
  (zd (zl (zh (zh (zb rfl rfl rfl) (SemE.un (zm H.g_UNDER_MASK rfl rfl))) (zh (zb rfl rfl rfl) (zm H.g_UNDER_SHIFT rfl rfl))))
  zf)
noncomputable def cx_pen_sub_changed (P:Params):Cx:=⟨(fd_pen_sub_changed P).scope,[.loc "pen",.loc "param",.loc "number",.loc "subs",.loc "places",.loc "parts",.loc "colour"],none,true⟩
theorem d_pen_sub_changed {G:Top0} {P:Params} {K:Frag} (H:Gl G K) (W:Wr G K) (f_flags_with_under:FnV G 1 "flags_with_under" 2 F_flags_with_under) (f_pen_colour_of:FnV G 2 "pen_colour_of" 2 F_pen_colour_of) (f_pen_with:FnV G 1 "pen_with" 3 F_pen_with):SemB G 2 (cx_pen_sub_changed P) (bodyOf (fd_pen_sub_changed P)) F_pen_sub_changed_body:=
  (zd (SemS.tupR (ns:=["number","subs"]) (zp (zy (zj (zb rfl rfl rfl) zc (fun _ _=>⟨_,rfl⟩))) rfl (zp (zy (zk (SemL.slc (zb rfl rfl rfl) (zv zc) SemO.none))) rfl SemParts.nil)) (fun _=>(zw (zg rfl rfl) (fun h=>wpAny_bindName h) (zw (zg rfl rfl) (fun h=>wpAny_bindName h) Sets.nil))) (by decide) (fun _=>rfl) (by intro env he;cases env;cases he;rfl) rfl)
  (zd (zo (zi (zb rfl rfl rfl) zc rfl) (zd (zo (SemT.all (SemAll.and (zi (SemE.len (Bi.mk H.n_len H.b_len rfl rfl) (zb rfl rfl rfl) rfl) zc rfl) (SemAll.and (zi (zj (zb rfl rfl rfl) zc (fun _ _=>⟨_,rfl⟩)) zx rfl) (SemAll.and1 (zi (zj (zb rfl rfl rfl) zc (fun _ _=>⟨_,rfl⟩)) zc rfl))))) (zd (zl (zs f_pen_with (by decide) (za (zb rfl rfl rfl) (za (zm H.g_FLAGS rfl rfl) (za (zs f_flags_with_under (by decide) (za (zj (zb rfl rfl rfl) (zm H.g_FLAGS rfl rfl) (fun _ _=>⟨_,rfl⟩)) (za (zj (zb rfl rfl rfl) zc (fun _ _=>⟨_,rfl⟩)) ze rfl) rfl) rfl rfl rfl rfl) ze rfl) rfl) rfl) rfl rfl rfl rfl))
  zf) zf)
  (zd (zl (zb rfl rfl rfl))
  zf)) zf)
  (zd (zq (zg rfl rfl) (by refine SemE.dctK ?_ rfl rfl;exact (KV.cons (zm H.g_SGR_FORE rfl rfl) (zm H.g_FORE rfl rfl) (KV.cons (zm H.g_SGR_BACK rfl rfl) (zm H.g_BACK rfl rfl) (KV.cons (zm H.g_SGR_UNDER rfl rfl) (zm H.g_UNDER rfl rfl) KV.nil)))) (fun _=>rfl))
  (zd (zo (zi (zb rfl rfl rfl) (zb rfl rfl rfl) rfl) (zd (zl (zb rfl rfl rfl))
  zf) zf)
  (zd (zq (zg rfl rfl) (zk (SemL.slc (zb rfl rfl rfl) (zv zc) SemO.none)) (fun _=>rfl))
  (zd (zo (SemT.all (SemAll.and (zi (zj (zb rfl rfl rfl) zc (fun _ _=>⟨_,rfl⟩)) zc rfl) (SemAll.and1 (zi (SemE.len (Bi.mk H.n_len H.b_len rfl rfl) (zb rfl rfl rfl) rfl) zc rfl)))) (zd (zq (zg rfl rfl) (zk (SemL.slc (zb rfl rfl rfl) (zv zc) SemO.none)) (fun _=>rfl))
  zf) zf)
  (zd (zq (zg rfl rfl) (zs f_pen_colour_of (by decide) (za (zj (zb rfl rfl rfl) zc (fun _ _=>⟨_,rfl⟩)) (za (zb rfl rfl rfl) ze rfl) rfl) rfl rfl rfl rfl) (fun _=>rfl))
  (zd (zl (SemE.ite (zi (zb rfl rfl rfl) zx rfl) (zb rfl rfl rfl) (zs f_pen_with (by decide) (za (zb rfl rfl rfl) (za (zj (zb rfl rfl rfl) (zb rfl rfl rfl) (fun _ _=>⟨_,rfl⟩)) (za (zb rfl rfl rfl) ze rfl) rfl) rfl) rfl rfl rfl rfl)))
  zf))))))))
noncomputable def cx_pen_told_apart (P:Params):Cx:=⟨(fd_pen_told_apart P).scope,[.loc "params",.loc "at",.loc "values",.loc "many"],none,true⟩
theorem d_pen_told_apart {G:Top0} {P:Params} {K:Frag} (H:Gl G K) (W:Wr G K) (f_pen_colour_of:FnV G 2 "pen_colour_of" 2 F_pen_colour_of):SemB G 2 (cx_pen_told_apart P) (bodyOf (fd_pen_told_apart P)) F_pen_told_apart_body:=
  (zd (SemS.cA rfl rfl (SemI.seq (zk (SemL.slc (zb rfl rfl rfl) (zv (zh (zb rfl rfl rfl) zc)) (zv (zh (zb rfl rfl rfl) zc))))) SemTs.nil (zj (zb rfl rfl rfl) zc (fun _ _=>⟨_,rfl⟩)) (fun _ _=>rfl) (zg rfl rfl) (swaps_of rfl))
  (zd (zo (zi (SemE.len (Bi.mk H.n_len H.b_len rfl rfl) (zb rfl rfl rfl) rfl) zc rfl) (zd (zl (zr (za zx (za (zh (zb rfl rfl rfl) zc) ze rfl) rfl) (by decide)))
  zf) zf)
  (zd (zq (zg rfl rfl) (SemE.get (by refine SemE.dctK ?_ rfl rfl;exact (KV.cons zc zc (KV.cons zc zc KV.nil))) (zj (zb rfl rfl rfl) zc (fun _ _=>⟨_,rfl⟩)) zc rfl rfl (fun _ _=>rfl) rfl) (fun _=>rfl))
  (zd (zl (zr (za (zs f_pen_colour_of (by decide) (za (zj (zb rfl rfl rfl) zc (fun _ _=>⟨_,rfl⟩)) (za (zk (SemL.slc (zb rfl rfl rfl) (zv zc) (zv (zh zc (zb rfl rfl rfl))))) ze rfl) rfl) rfl rfl rfl rfl) (za (zh (zh (zb rfl rfl rfl) zc) (zb rfl rfl rfl)) ze rfl) rfl) (by decide)))
  zf))))
noncomputable def cx_pen_bits (P:Params):Cx:=⟨(fd_pen_bits P).scope,[],none,true⟩
theorem d_pen_bits {G:Top0} {P:Params} {K:Frag} (H:Gl G K) (W:Wr G K):SemB G 0 (cx_pen_bits P) (bodyOf (fd_pen_bits P)) F_pen_bits_body:=
  (zd (zl (zr (za (zr (za (zm H.g_BOLD rfl rfl) (za zc (za zc ze rfl) rfl) rfl) (by decide)) (za (zr (za (zm H.g_FAINT rfl rfl) (za zc (za zc ze rfl) rfl) rfl) (by decide)) (za (zr (za (zm H.g_ITALIC rfl rfl) (za zc (za zc ze rfl) rfl) rfl) (by decide)) (za (zr (za (zm H.g_BLINK rfl rfl) (za zc (za zc ze rfl) rfl) rfl) (by decide)) (za (zr (za (zm H.g_FAST rfl rfl) (za zc (za zc ze rfl) rfl) rfl) (by decide)) (za (zr (za (zm H.g_INVERSE rfl rfl) (za zc (za zc ze rfl) rfl) rfl) (by decide)) (za (zr (za (zm H.g_HIDDEN rfl rfl) (za zc (za zc ze rfl) rfl) rfl) (by decide)) (za (zr (za (zm H.g_STRUCK rfl rfl) (za zc (za zc ze rfl) rfl) rfl) (by decide)) (za (zr (za (zm H.g_OVERLINE rfl rfl) (za zc (za zc ze rfl) rfl) rfl) (by decide)) ze rfl) rfl) rfl) rfl) rfl) rfl) rfl) rfl) rfl) (by decide)))
  zf)
noncomputable def cx_pen_plain_changed (P:Params):Cx:=⟨(fd_pen_plain_changed P).scope,[.loc "pen",.loc "number",.loc "flags",.loc "place",.loc "first",.loc "bit",.loc "sets",.loc "clears"],none,true⟩
theorem d_pen_plain_changed {G:Top0} {P:Params} {K:Frag} (H:Gl G K) (W:Wr G K) (f_flags_with_under:FnV G 1 "flags_with_under" 2 F_flags_with_under) (f_pen_bits:FnV G 1 "pen_bits" 0 F_pen_bits) (f_pen_with:FnV G 1 "pen_with" 3 F_pen_with):SemB G 1 (cx_pen_plain_changed P) (bodyOf (fd_pen_plain_changed P)) F_pen_plain_changed_body:=
  (zd (zq (zg rfl rfl) (zj (zb rfl rfl rfl) (zm H.g_FLAGS rfl rfl) (fun _ _=>⟨_,rfl⟩)) (fun _=>rfl))
  (zd (zo (zi (zb rfl rfl rfl) (zm H.g_SGR_RESET rfl rfl) rfl) (zd (zl (zs f_pen_with (by decide) (za (zm H.g_PLAIN rfl rfl) (za (zm H.g_LINK rfl rfl) (za (zj (zb rfl rfl rfl) (zm H.g_LINK rfl rfl) (fun _ _=>⟨_,rfl⟩)) ze rfl) rfl) rfl) rfl rfl rfl rfl))
  zf) zf)
  (zd (zo (SemT.all (SemAll.or (zi (zb rfl rfl rfl) zc rfl) (SemAll.or (zi (zb rfl rfl rfl) zc rfl) (SemAll.or1 (zi (zb rfl rfl rfl) zc rfl))))) (zd (zl (zs f_pen_with (by decide) (za (zb rfl rfl rfl) (za (zm H.g_FLAGS rfl rfl) (za (zs f_flags_with_under (by decide) (za (zb rfl rfl rfl) (za (zj (by refine SemE.dctK ?_ rfl rfl;exact (KV.cons zc zc (KV.cons zc zc (KV.cons zc zc KV.nil)))) (zb rfl rfl rfl) (fun _ _=>⟨_,rfl⟩)) ze rfl) rfl) rfl rfl rfl rfl) ze rfl) rfl) rfl) rfl rfl rfl rfl))
  zf) zf)
  (zd (SemS.for (SemTgt.tup (Names.cons (zg rfl rfl) (Names.cons (zg rfl rfl) Names.nil))) (SemI.seq (zr (za (zr (za (zm H.g_FORE rfl rfl) (za zc ze rfl) rfl) (by decide)) (za (zr (za (zm H.g_BACK rfl rfl) (za zc ze rfl) rfl) (by decide)) ze rfl) rfl) (by decide))) (zd (zo (SemT.cmp2 (zb rfl rfl rfl) (zb rfl rfl rfl) (zh (zb rfl rfl rfl) zc) rfl) (zd (zl (zs f_pen_with (by decide) (za (zb rfl rfl rfl) (za (zb rfl rfl rfl) (za (zh (zb rfl rfl rfl) (zb rfl rfl rfl)) ze rfl) rfl) rfl) rfl rfl rfl rfl))
  zf) zf)
  (zd (zo (zi (zb rfl rfl rfl) (zh (zb rfl rfl rfl) zc) rfl) (zd (zl (zs f_pen_with (by decide) (za (zb rfl rfl rfl) (za (zb rfl rfl rfl) (za (zm H.g_NO_COLOUR rfl rfl) ze rfl) rfl) rfl) rfl rfl rfl rfl))
  zf) zf)
  (zd (zo (SemT.cmp2 (zh (zb rfl rfl rfl) zc) (zb rfl rfl rfl) (zh (zb rfl rfl rfl) zc) rfl) (zd (zl (zs f_pen_with (by decide) (za (zb rfl rfl rfl) (za (zb rfl rfl rfl) (za (zh (zh (zh (zb rfl rfl rfl) (zb rfl rfl rfl)) zc) (zm H.g_FIRST_BRIGHT rfl rfl)) ze rfl) rfl) rfl) rfl rfl rfl rfl))
  zf) zf)
  zf))) (fun _ _=>rfl))
  (zd (zo (zi (zb rfl rfl rfl) zc rfl) (zd (zl (zs f_pen_with (by decide) (za (zb rfl rfl rfl) (za (zm H.g_UNDER rfl rfl) (za (zm H.g_NO_COLOUR rfl rfl) ze rfl) rfl) rfl) rfl rfl rfl rfl))
  zf) zf)
  (zd (SemS.for (SemTgt.tup (Names.cons (zg rfl rfl) (Names.cons (zg rfl rfl) (Names.cons (zg rfl rfl) Names.nil)))) (SemI.seq (SemE.fn0 f_pen_bits (by decide) rfl rfl)) (zd (zo (zi (zb rfl rfl rfl) (zb rfl rfl rfl) rfl) (zd (SemS.augL rfl rfl (zb rfl rfl rfl) (.inr (.inr rfl)))
  zf) (zd (zo (zi (zb rfl rfl rfl) (zb rfl rfl rfl) rfl) (zd (SemS.augL rfl rfl (SemE.un (zb rfl rfl rfl)) (.inr (.inl rfl)))
  zf) zf)
  zf))
  zf) (fun _ _=>rfl))
  (zd (zl (zs f_pen_with (by decide) (za (zb rfl rfl rfl) (za (zm H.g_FLAGS rfl rfl) (za (zb rfl rfl rfl) ze rfl) rfl) rfl) rfl rfl rfl rfl))
  zf)))))))
noncomputable def cx_apply_sgr (P:Params):Cx:=⟨(fd_apply_sgr P).scope,[.loc "pen",.loc "params",.loc "found",.loc "at",.loc "rows",.loc "places",.loc "param",.loc "number",.loc "colour"],none,true⟩
theorem d_apply_sgr {G:Top0} {P:Params} {K:Frag} (H:Gl G K) (W:Wr G K) (f_pen_plain_changed:FnV G 2 "pen_plain_changed" 2 F_pen_plain_changed) (f_pen_sub_changed:FnV G 3 "pen_sub_changed" 2 F_pen_sub_changed) (f_pen_told_apart:FnV G 3 "pen_told_apart" 2 F_pen_told_apart) (f_pen_with:FnV G 1 "pen_with" 3 F_pen_with):SemB G 3 (cx_apply_sgr P) (bodyOf (fd_apply_sgr P)) F_apply_sgr_body:=
  (zd (SemS.tupR (ns:=["found","at"]) (zp (zy (zb rfl rfl rfl)) rfl (zp (zy zc) rfl SemParts.nil)) (fun _=>(zw (zg rfl rfl) (fun h=>wpAny_bindName h) (zw (zg rfl rfl) (fun h=>wpAny_bindName h) Sets.nil))) (by decide) (fun _=>rfl) (by intro env he;cases env;cases he;rfl) rfl)
  (zd (zq (zg rfl rfl) (SemE.ite (zi (SemE.len (Bi.mk H.n_len H.b_len rfl rfl) (zb rfl rfl rfl) rfl) zc rfl) (zb rfl rfl rfl) (zk (zt (za (zk (zt (za zx ze rfl) (by decide))) ze rfl) (by decide)))) (fun _=>rfl))
  (zd (zq (zg rfl rfl) (by refine SemE.dctK ?_ rfl rfl;exact (KV.cons (zm H.g_SGR_FORE rfl rfl) (zm H.g_FORE rfl rfl) (KV.cons (zm H.g_SGR_BACK rfl rfl) (zm H.g_BACK rfl rfl) (KV.cons (zm H.g_SGR_UNDER rfl rfl) (zm H.g_UNDER rfl rfl) KV.nil)))) (fun _=>rfl))
  (zd (SemS.whl (zi (zb rfl rfl rfl) (SemE.len (Bi.mk H.n_len H.b_len rfl rfl) (zb rfl rfl rfl) rfl) rfl) (zd (zq (zg rfl rfl) (zj (zb rfl rfl rfl) (zb rfl rfl rfl) (fun _ _=>⟨_,rfl⟩)) (fun _=>rfl))
  (zd (zq (zg rfl rfl) (SemE.ite (zi (zj (zb rfl rfl rfl) zc (fun _ _=>⟨_,rfl⟩)) zx rfl) (zm H.g_SGR_RESET rfl rfl) (zj (zb rfl rfl rfl) zc (fun _ _=>⟨_,rfl⟩))) (fun _=>rfl))
  (zd (zo (zi (SemE.len (Bi.mk H.n_len H.b_len rfl rfl) (zb rfl rfl rfl) rfl) zc rfl) (zd (zq (zg rfl rfl) (zs f_pen_sub_changed (by decide) (za (zb rfl rfl rfl) (za (zb rfl rfl rfl) ze rfl) rfl) rfl rfl rfl rfl) (fun _=>rfl))
  (zd (SemS.augL rfl rfl zc (.inl rfl))
  zf)) (zd (zo (zi (zb rfl rfl rfl) (zb rfl rfl rfl) rfl) (zd (SemS.unp (SemTgt.tup (Names.cons (zg rfl rfl) (Names.cons (zg rfl rfl) Names.nil))) (zs f_pen_told_apart (by decide) (za (zb rfl rfl rfl) (za (zb rfl rfl rfl) ze rfl) rfl) rfl rfl rfl rfl) (fun _=>rfl) (fun _=>rfl))
  (zd (zq (zg rfl rfl) (SemE.ite (zi (zb rfl rfl rfl) zx rfl) (zb rfl rfl rfl) (zs f_pen_with (by decide) (za (zb rfl rfl rfl) (za (zj (zb rfl rfl rfl) (zb rfl rfl rfl) (fun _ _=>⟨_,rfl⟩)) (za (zb rfl rfl rfl) ze rfl) rfl) rfl) rfl rfl rfl rfl)) (fun _=>rfl))
  zf)) (zd (zq (zg rfl rfl) (zs f_pen_plain_changed (by decide) (za (zb rfl rfl rfl) (za (zb rfl rfl rfl) ze rfl) rfl) rfl rfl rfl rfl) (fun _=>rfl))
  (zd (SemS.augL rfl rfl zc (.inl rfl))
  zf)))
  zf))
  zf))))
  (zd (zl (zb rfl rfl rfl))
  zf)))))
noncomputable def cx_sgr_bit_params (P:Params):Cx:=⟨(fd_sgr_bit_params P).scope,[.loc "old",.loc "new",.loc "clears",.loc "sets",.loc "here",.loc "bit",.loc "one",.loc "other",.loc "mate",.loc "unused",.loc "clear"],none,true⟩
theorem d_sgr_bit_params {G:Top0} {P:Params} {K:Frag} (H:Gl G K) (W:Wr G K) (f_pen_bits:FnV G 1 "pen_bits" 0 F_pen_bits):SemB G 1 (cx_sgr_bit_params P) (bodyOf (fd_sgr_bit_params P)) F_sgr_bit_params_body:=
  (zd (SemS.tupR (ns:=["clears","sets","here"]) (zp (SemPart.l (zt ze (by decide))) rfl (zp (SemPart.l (zt ze (by decide))) rfl (zp (zy (zb rfl rfl rfl)) rfl SemParts.nil))) (fun _=>(zw (zg rfl rfl) (fun h=>wpAny_bindName h) (zw (zg rfl rfl) (fun h=>wpAny_bindName h) (zw (zg rfl rfl) (fun h=>wpAny_bindName h) Sets.nil)))) (by decide) (fun _=>rfl) (by intro env he;cases env;cases he;rfl) rfl)
  (zd (SemS.for (SemTgt.tup (Names.cons (zg rfl rfl) (Names.cons (zg rfl rfl) (Names.cons (zg rfl rfl) Names.nil)))) (SemI.seq (SemE.fn0 f_pen_bits (by decide) rfl rfl)) (zd (zo (SemT.all (SemAll.and (SemT.val (zh (zb rfl rfl rfl) (zb rfl rfl rfl)) (fun _ _=>rfl)) (SemAll.and1 (SemT.not (SemT.val (zh (zb rfl rfl rfl) (zb rfl rfl rfl)) (fun _ _=>rfl)))))) (zd (SemS.app rfl (SemP.loc rfl rfl rfl) (.inl ⟨(zk (zt (za (zb rfl rfl rfl) ze rfl) (by decide))),_,rfl⟩) rfl (fun _ _=>rfl) rfl)
  (zd (SemS.for (SemTgt.tup (Names.cons (zg rfl rfl) (Names.cons (zg rfl rfl) (Names.cons (zg rfl rfl) Names.nil)))) (SemI.seq (SemE.fn0 f_pen_bits (by decide) rfl rfl)) (zd (zo (zi (zb rfl rfl rfl) (zb rfl rfl rfl) rfl) (zd (SemS.augL rfl rfl (SemE.un (zb rfl rfl rfl)) (.inr (.inl rfl)))
  zf) zf)
  zf) (fun _ _=>rfl))
  zf)) zf)
  zf) (fun _ _=>rfl))
  (zd (SemS.for (SemTgt.tup (Names.cons (zg rfl rfl) (Names.cons (zg rfl rfl) (Names.cons (zg rfl rfl) Names.nil)))) (SemI.seq (SemE.fn0 f_pen_bits (by decide) rfl rfl)) (zd (zo (SemT.all (SemAll.and (SemT.val (zh (zb rfl rfl rfl) (zb rfl rfl rfl)) (fun _ _=>rfl)) (SemAll.and1 (SemT.not (SemT.val (zh (zb rfl rfl rfl) (zb rfl rfl rfl)) (fun _ _=>rfl)))))) (zd (SemS.app rfl (SemP.loc rfl rfl rfl) (.inl ⟨(zk (zt (za (zb rfl rfl rfl) ze rfl) (by decide))),_,rfl⟩) rfl (fun _ _=>rfl) rfl)
  zf) zf)
  zf) (fun _ _=>rfl))
  (zd (zl (zk (SemL.add (zb rfl rfl rfl) (zb rfl rfl rfl))))
  zf))))
noncomputable def cx_sgr_under_params (P:Params):Cx:=⟨(fd_sgr_under_params P).scope,[.loc "old",.loc "new",.loc "plain"],none,true⟩
theorem d_sgr_under_params {G:Top0} {P:Params} {K:Frag} (H:Gl G K) (W:Wr G K):SemB G 0 (cx_sgr_under_params P) (bodyOf (fd_sgr_under_params P)) F_sgr_under_params_body:=
  (zd (zo (zi (zb rfl rfl rfl) (zb rfl rfl rfl) rfl) (zd (zl (zk (zt ze (by decide))))
  zf) zf)
  (zd (zq (zg rfl rfl) (by refine SemE.dctK ?_ rfl rfl;exact (KV.cons zc (zk (zt (za zc ze rfl) (by decide))) (KV.cons zc (zk (zt (za zc ze rfl) (by decide))) (KV.cons zc (zk (zt (za zc ze rfl) (by decide))) KV.nil)))) (fun _=>rfl))
  (zd (zl (zk (zt (za (SemE.ite (zi (zb rfl rfl rfl) (zb rfl rfl rfl) rfl) (zj (zb rfl rfl rfl) (zb rfl rfl rfl) (fun _ _=>⟨_,rfl⟩)) (zk (zt (za zc (za (zb rfl rfl rfl) ze rfl) rfl) (by decide)))) ze rfl) (by decide))))
  zf)))
noncomputable def cx_under_of (P:Params):Cx:=⟨(fd_under_of P).scope,[.loc "flags"],none,true⟩
theorem d_under_of {G:Top0} {P:Params} {K:Frag} (H:Gl G K) (W:Wr G K):SemB G 0 (cx_under_of P) (bodyOf (fd_under_of P)) F_under_of_body:=
  (zd (zl (zh (zh (zb rfl rfl rfl) (zm H.g_UNDER_MASK rfl rfl)) (zm H.g_UNDER_SHIFT rfl rfl)))
  zf)
noncomputable def cx_is_direct (P:Params):Cx:=⟨(fd_is_direct P).scope,[.loc "colour"],none,true⟩
theorem d_is_direct {G:Top0} {P:Params} {K:Frag} (H:Gl G K) (W:Wr G K):SemB G 0 (cx_is_direct P) (bodyOf (fd_is_direct P)) F_is_direct_body:=
  (zd (zl (SemE.cmp (zb rfl rfl rfl) (zm H.g_DIRECT rfl rfl) rfl))
  zf)
noncomputable def cx_rgb_of (P:Params):Cx:=⟨(fd_rgb_of P).scope,[.loc "colour"],none,true⟩
theorem d_rgb_of {G:Top0} {P:Params} {K:Frag} (H:Gl G K) (W:Wr G K):SemB G 0 (cx_rgb_of P) (bodyOf (fd_rgb_of P)) F_rgb_of_body:=
  (zd (zl (zr (za (zh (zh (zb rfl rfl rfl) zc) zc) (za (zh (zh (zb rfl rfl rfl) zc) zc) (za (zh (zb rfl rfl rfl) zc) ze rfl) rfl) rfl) (by decide)))
  zf)
noncomputable def cx_sgr_colour_params (P:Params):Cx:=⟨(fd_sgr_colour_params P).scope,[.loc "place",.loc "colour",.loc "first",.loc "red",.loc "green",.loc "blue"],none,true⟩
theorem d_sgr_colour_params {G:Top0} {P:Params} {K:Frag} (H:Gl G K) (W:Wr G K) (f_is_direct:FnV G 1 "is_direct" 1 F_is_direct) (f_rgb_of:FnV G 1 "rgb_of" 1 F_rgb_of):SemB G 1 (cx_sgr_colour_params P) (bodyOf (fd_sgr_colour_params P)) F_sgr_colour_params_body:=
  (zd (zq (zg rfl rfl) (zj (by refine SemE.dctK ?_ rfl rfl;exact (KV.cons (zm H.g_FORE rfl rfl) zc (KV.cons (zm H.g_BACK rfl rfl) zc (KV.cons (zm H.g_UNDER rfl rfl) zc KV.nil)))) (zb rfl rfl rfl) (fun _ _=>⟨_,rfl⟩)) (fun _=>rfl))
  (zd (zo (zi (zb rfl rfl rfl) (zm H.g_NO_COLOUR rfl rfl) rfl) (zd (zl (zk (zt (za (zk (zt (za (zh (zb rfl rfl rfl) zc) ze rfl) (by decide))) ze rfl) (by decide))))
  zf) zf)
  (zd (zo (SemT.val (zs f_is_direct (by decide) (za (zb rfl rfl rfl) ze rfl) rfl rfl rfl rfl) (fun _ _=>rfl)) (zd (SemS.unp (SemTgt.tup (Names.cons (zg rfl rfl) (Names.cons (zg rfl rfl) (Names.cons (zg rfl rfl) Names.nil)))) (zs f_rgb_of (by decide) (za (zb rfl rfl rfl) ze rfl) rfl rfl rfl rfl) (fun _=>rfl) (fun _=>rfl))
  (zd (zl (zk (zt (za (zk (zt (za (zh (zb rfl rfl rfl) zc) ze rfl) (by decide))) (za (zk (zt (za zc ze rfl) (by decide))) (za (zk (zt (za (zb rfl rfl rfl) ze rfl) (by decide))) (za (zk (zt (za (zb rfl rfl rfl) ze rfl) (by decide))) (za (zk (zt (za (zb rfl rfl rfl) ze rfl) (by decide))) ze rfl) rfl) rfl) rfl) rfl) (by decide))))
  zf)) zf)
  (zd (zo (SemT.all (SemAll.or (zi (zb rfl rfl rfl) (zm H.g_UNDER rfl rfl) rfl) (SemAll.or1 (zi (zb rfl rfl rfl) zc rfl)))) (zd (zl (zk (zt (za (zk (zt (za (zh (zb rfl rfl rfl) zc) ze rfl) (by decide))) (za (zk (zt (za zc ze rfl) (by decide))) (za (zk (zt (za (zb rfl rfl rfl) ze rfl) (by decide))) ze rfl) rfl) rfl) (by decide))))
  zf) zf)
  (zd (zl (zk (zt (za (zk (zt (za (SemE.ite (zi (zb rfl rfl rfl) (zm H.g_FIRST_BRIGHT rfl rfl) rfl) (zh (zb rfl rfl rfl) (zb rfl rfl rfl)) (zh (zh (zh (zb rfl rfl rfl) zc) (zb rfl rfl rfl)) (zm H.g_FIRST_BRIGHT rfl rfl))) ze rfl) (by decide))) ze rfl) (by decide))))
  zf)))))
noncomputable def cx_sgr_changes (P:Params):Cx:=⟨(fd_sgr_changes P).scope,[.loc "old",.loc "new",.loc "found",.loc "place"],none,true⟩
theorem d_sgr_changes {G:Top0} {P:Params} {K:Frag} (H:Gl G K) (W:Wr G K) (f_sgr_bit_params:FnV G 2 "sgr_bit_params" 2 F_sgr_bit_params) (f_sgr_colour_params:FnV G 2 "sgr_colour_params" 2 F_sgr_colour_params) (f_sgr_under_params:FnV G 1 "sgr_under_params" 2 F_sgr_under_params) (f_under_of:FnV G 1 "under_of" 1 F_under_of):SemB G 2 (cx_sgr_changes P) (bodyOf (fd_sgr_changes P)) F_sgr_changes_body:=
  (zd (zq (zg rfl rfl) (zs f_sgr_bit_params (by decide) (za (zj (zb rfl rfl rfl) (zm H.g_FLAGS rfl rfl) (fun _ _=>⟨_,rfl⟩)) (za (zj (zb rfl rfl rfl) (zm H.g_FLAGS rfl rfl) (fun _ _=>⟨_,rfl⟩)) ze rfl) rfl) rfl rfl rfl rfl) (fun _=>rfl))
  (zd (zq (zg rfl rfl) (zk (SemL.add (zb rfl rfl rfl) (zs f_sgr_under_params (by decide) (za (zs f_under_of (by decide) (za (zj (zb rfl rfl rfl) (zm H.g_FLAGS rfl rfl) (fun _ _=>⟨_,rfl⟩)) ze rfl) rfl rfl rfl rfl) (za (zs f_under_of (by decide) (za (zj (zb rfl rfl rfl) (zm H.g_FLAGS rfl rfl) (fun _ _=>⟨_,rfl⟩)) ze rfl) rfl rfl rfl rfl) ze rfl) rfl) rfl rfl rfl rfl))) (fun _=>rfl))
  (zd (SemS.for (SemTgt.name (zg rfl rfl)) (SemI.seq (zr (za (zm H.g_FORE rfl rfl) (za (zm H.g_BACK rfl rfl) (za (zm H.g_UNDER rfl rfl) ze rfl) rfl) rfl) (by decide))) (zd (zo (zi (zj (zb rfl rfl rfl) (zb rfl rfl rfl) (fun _ _=>⟨_,rfl⟩)) (zj (zb rfl rfl rfl) (zb rfl rfl rfl) (fun _ _=>⟨_,rfl⟩)) rfl) (zd (zq (zg rfl rfl) (zk (SemL.add (zb rfl rfl rfl) (zs f_sgr_colour_params (by decide) (za (zb rfl rfl rfl) (za (zj (zb rfl rfl rfl) (zb rfl rfl rfl) (fun _ _=>⟨_,rfl⟩)) ze rfl) rfl) rfl rfl rfl rfl))) (fun _=>rfl))
  zf) zf)
  zf) (fun _ _=>rfl))
  (zd (zl (zb rfl rfl rfl))
  zf))))
noncomputable def cx_pen_told (P:Params):Cx:=⟨(fd_pen_told P).scope,[.loc "pen",.loc "can_direct",.loc "colours",.loc "colour"],none,true⟩
theorem d_pen_told {G:Top0} {P:Params} {K:Frag} (H:Gl G K) (W:Wr G K) (f_is_direct:FnV G 1 "is_direct" 1 F_is_direct) (f_nearest_of_256:FnV G 1 "nearest_of_256" 1 F_nearest_of_256):SemB G 1 (cx_pen_told P) (bodyOf (fd_pen_told P)) F_pen_told_body:=
  (zd (SemS.asgL (zg rfl rfl) (zt ze (by decide)) (fun _=>rfl))
  (zd (SemS.for (SemTgt.name (zg rfl rfl)) (SemI.seq (SemE.slc (zb rfl rfl rfl) (zv (zm H.g_FORE rfl rfl)) (zv (zh (zm H.g_UNDER rfl rfl) zc)))) (zd (SemS.app rfl (SemP.loc rfl rfl rfl) (.inl ⟨(SemE.ite (SemT.all (SemAll.and (SemT.val (zs f_is_direct (by decide) (za (zb rfl rfl rfl) ze rfl) rfl rfl rfl rfl) (fun _ _=>rfl)) (SemAll.and1 (SemT.not (SemT.val (zb rfl rfl rfl) (fun _ _=>rfl)))))) (zs f_nearest_of_256 (by decide) (za (zh (zb rfl rfl rfl) (zm H.g_DIRECT rfl rfl)) ze rfl) rfl rfl rfl rfl) (zb rfl rfl rfl)),_,rfl⟩) rfl (fun _ _=>rfl) rfl)
  zf) (fun _ _=>rfl))
  (zd (zl (zr (za (zj (zb rfl rfl rfl) (zm H.g_FLAGS rfl rfl) (fun _ _=>⟨_,rfl⟩)) (za (SemE.getS rfl (SemP.loc rfl rfl rfl) zc Still.cst (fun _ _=>⟨_,rfl⟩)) (za (SemE.getS rfl (SemP.loc rfl rfl rfl) zc Still.cst (fun _ _=>⟨_,rfl⟩)) (za (SemE.getS rfl (SemP.loc rfl rfl rfl) zc Still.cst (fun _ _=>⟨_,rfl⟩)) (za zc ze rfl) rfl) rfl) rfl) rfl) (by decide)))
  zf)))
noncomputable def cx_decimal_octets (P:Params):Cx:=⟨(fd_decimal_octets P).scope,[.loc "number",.loc "rest",.loc "found"],none,true⟩
theorem d_decimal_octets {G:Top0} {P:Params} {K:Frag} (H:Gl G K) (W:Wr G K):SemB G 0 (cx_decimal_octets P) (bodyOf (fd_decimal_octets P)) F_decimal_octets_body:=
  (zd (zq (zg rfl rfl) (SemE.ite (zi (zb rfl rfl rfl) zc rfl) (zb rfl rfl rfl) (SemE.un (zb rfl rfl rfl))) (fun _=>rfl))
  (zd (SemS.asgL (zg rfl rfl) (zt (za (zh zc (zh (zb rfl rfl rfl) zc)) ze rfl) (by decide)) (fun _=>rfl))
  (zd (zq (zg rfl rfl) (zh (zb rfl rfl rfl) zc) (fun _=>rfl))
  (zd (SemS.whl (zi (zb rfl rfl rfl) zc rfl) (zd (SemS.app rfl (SemP.loc rfl rfl rfl) (.inl ⟨(zh zc (zh (zb rfl rfl rfl) zc)),_,rfl⟩) rfl (fun _ _=>rfl) rfl)
  (zd (zq (zg rfl rfl) (zh (zb rfl rfl rfl) zc) (fun _=>rfl))
  zf)))
  (zd (zo (zi (zb rfl rfl rfl) zc rfl) (zd (SemS.app rfl (SemP.loc rfl rfl rfl) (.inl ⟨zc,_,rfl⟩) rfl (fun _ _=>rfl) rfl)
  zf) zf)
  (zd (zl (SemE.bytes' (Bi.mk H.n_bytes H.b_bytes rfl rfl) (zk (SemL.rev (zb rfl rfl rfl))) rfl))
  zf))))))
noncomputable def cx_part_octets (P:Params):Cx:=⟨(fd_part_octets P).scope,[.loc "value"],none,true⟩
theorem d_part_octets {G:Top0} {P:Params} {K:Frag} (H:Gl G K) (W:Wr G K) (f_decimal_octets:FnV G 1 "decimal_octets" 1 F_decimal_octets):SemB G 1 (cx_part_octets P) (bodyOf (fd_part_octets P)) F_part_octets_body:=
  (zd (zl (SemE.ite (zi (zb rfl rfl rfl) zx rfl) zu (zs f_decimal_octets (by decide) (za (zb rfl rfl rfl) ze rfl) rfl rfl rfl rfl)))
  zf)
noncomputable def cx_params_octets (P:Params):Cx:=⟨(fd_params_octets P).scope,[.loc "params"],none,true⟩
theorem d_params_octets {G:Top0} {P:Params} {K:Frag} (H:Gl G K) (W:Wr G K) (f_part_octets:FnV G 2 "part_octets" 1 F_part_octets):SemB G 2 (cx_params_octets P) (bodyOf (fd_params_octets P)) F_params_octets_body:=
  (zd (zl (SemE.join zu (zk (SemL.cA rfl rfl (SemI.seq (zb rfl rfl rfl)) SemTs.nil (SemE.join zu (zk (SemL.cA rfl rfl (SemI.seq (zb rfl rfl rfl)) SemTs.nil (zs f_part_octets (by decide) (za (zb rfl rfl rfl) ze rfl) rfl rfl rfl rfl) (fun _ _=>rfl))) rfl (fun _ _=>rfl) rfl) (fun _ _=>rfl))) rfl (fun _ _=>rfl) rfl))
  zf)
noncomputable def cx_sgr_params (P:Params):Cx:=⟨(fd_sgr_params P).scope,[.loc "old",.loc "new",.loc "can_direct",.loc "here",.loc "there",.loc "changes",.loc "anew"],none,true⟩
theorem d_sgr_params {G:Top0} {P:Params} {K:Frag} (H:Gl G K) (W:Wr G K) (f_params_octets:FnV G 3 "params_octets" 1 F_params_octets) (f_pen_told:FnV G 2 "pen_told" 2 F_pen_told) (f_sgr_changes:FnV G 3 "sgr_changes" 2 F_sgr_changes):SemB G 3 (cx_sgr_params P) (bodyOf (fd_sgr_params P)) F_sgr_params_body:=
  (zd (SemS.tupR (ns:=["here","there"]) (zp (zy (zs f_pen_told (by decide) (za (zb rfl rfl rfl) (za (zb rfl rfl rfl) ze rfl) rfl) rfl rfl rfl rfl)) rfl (zp (zy (zs f_pen_told (by decide) (za (zb rfl rfl rfl) (za (zb rfl rfl rfl) ze rfl) rfl) rfl rfl rfl rfl)) rfl SemParts.nil)) (fun _=>(zw (zg rfl rfl) (fun h=>wpAny_bindName h) (zw (zg rfl rfl) (fun h=>wpAny_bindName h) Sets.nil))) (by decide) (fun _=>rfl) (by intro env he;cases env;cases he;rfl) rfl)
  (zd (zo (zi (zb rfl rfl rfl) (zb rfl rfl rfl) rfl) (zd (zl zx)
  zf) zf)
  (zd (zq (zg rfl rfl) (zs f_sgr_changes (by decide) (za (zb rfl rfl rfl) (za (zb rfl rfl rfl) ze rfl) rfl) rfl rfl rfl rfl) (fun _=>rfl))
  (zd (zq (zg rfl rfl) (zs f_sgr_changes (by decide) (za (zm H.g_PLAIN rfl rfl) (za (zb rfl rfl rfl) ze rfl) rfl) rfl rfl rfl rfl) (fun _=>rfl))
  (zd (zq (zg rfl rfl) (SemE.ite (zi (SemE.len (Bi.mk H.n_len H.b_len rfl rfl) (zb rfl rfl rfl) rfl) zc rfl) (zk (zt ze (by decide))) (zk (SemL.add (zk (zt (za (zk (zt (za (zm H.g_SGR_RESET rfl rfl) ze rfl) (by decide))) ze rfl) (by decide))) (zb rfl rfl rfl)))) (fun _=>rfl))
  (zd (zl (SemE.ite (zi (SemE.len (Bi.mk H.n_len H.b_len rfl rfl) (zs f_params_octets (by decide) (za (zb rfl rfl rfl) ze rfl) rfl rfl rfl rfl) rfl) (SemE.len (Bi.mk H.n_len H.b_len rfl rfl) (zs f_params_octets (by decide) (za (zb rfl rfl rfl) ze rfl) rfl rfl rfl rfl) rfl) rfl) (zb rfl rfl rfl) (zb rfl rfl rfl)))
  zf))))))
noncomputable def cx_sgr_octets (P:Params):Cx:=⟨(fd_sgr_octets P).scope,[.loc "old",.loc "new",.loc "can_direct",.loc "params"],none,true⟩
theorem d_sgr_octets {G:Top0} {P:Params} {K:Frag} (H:Gl G K) (W:Wr G K) (f_params_octets:FnV G 3 "params_octets" 1 F_params_octets) (f_sgr_params:FnV G 4 "sgr_params" 3 F_sgr_params):SemB G 4 (cx_sgr_octets P) (bodyOf (fd_sgr_octets P)) F_sgr_octets_body:=
  (zd (zq (zg rfl rfl) (zs f_sgr_params (by decide) (za (zb rfl rfl rfl) (za (zb rfl rfl rfl) (za (zb rfl rfl rfl) ze rfl) rfl) rfl) rfl rfl rfl rfl) (fun _=>rfl))
  (zd (zl (SemE.ite (zi (zb rfl rfl rfl) zx rfl) zu (zh (zh zu (zs f_params_octets (by decide) (za (zb rfl rfl rfl) ze rfl) rfl rfl rfl rfl)) zu)))
  zf))
noncomputable def cx_law_inside (P:Params):Cx:=⟨(fd_law_inside P).scope,[.loc "octets"],none,true⟩
theorem d_law_inside {G:Top0} {P:Params} {K:Frag} (H:Gl G K) (W:Wr G K):SemB G 0 (cx_law_inside P) (bodyOf (fd_law_inside P)) F_law_inside_body:=
  (zd (zl (SemE.slc (zb rfl rfl rfl) (zv zc) (zv (SemE.un zc))))
  zf)
noncomputable def cx_law_leads_right (P:Params):Cx:=⟨(fd_law_leads_right P).scope,[.loc "old",.loc "new",.loc "told"],none,true⟩
theorem d_law_leads_right {G:Top0} {P:Params} {K:Frag} (H:Gl G K) (W:Wr G K) (f_law_inside:FnV G 1 "_law_inside" 1 F_law_inside) (f_law_seen:FnV G 3 "_law_seen" 2 F_law_seen) (f_sgr_octets:FnV G 5 "sgr_octets" 2 F_sgr_octets):SemB G 5 (cx_law_leads_right P) (bodyOf (fd_law_leads_right P)) F_law_leads_right_body:=
  (zd (zq (zg rfl rfl) (zs f_sgr_octets (by decide) (za (zb rfl rfl rfl) (za (zb rfl rfl rfl) ze rfl) rfl) rfl rfl rfl rfl) (fun _=>rfl))
  (zd (zo (zi (zb rfl rfl rfl) zu rfl) (zd (zl (SemE.cmp (SemE.slc (zb rfl rfl rfl) SemO.none (zv zc)) (SemE.slc (zb rfl rfl rfl) SemO.none (zv zc)) rfl))
  zf) zf)
  (zd (zl (SemE.and3 (SemE.cmp (SemE.slc (zb rfl rfl rfl) SemO.none (zv zc)) zu rfl) (SemE.and2 (SemE.cmp (SemE.slc (zb rfl rfl rfl) (zv (SemE.un zc)) SemO.none) zu rfl) (SemE.cmp (zs f_law_seen (by decide) (za (zb rfl rfl rfl) (za (zs f_law_inside (by decide) (za (zb rfl rfl rfl) ze rfl) rfl rfl rfl rfl) ze rfl) rfl) rfl rfl rfl rfl) (zh (SemE.slc (zb rfl rfl rfl) SemO.none (zv zc)) (SemE.slc (zb rfl rfl rfl) (zv zc) SemO.none)) rfl))))
  zf)))
noncomputable def cx0_law (P:Params):Cx:=⟨(fd_law P).scope,[.loc "script",.loc "some",.loc "old",.loc "other",.loc "half",.loc "octets",.loc "between",.loc "at",.loc "sign",.loc "params",.loc "look"]++[.cell "deck"],none,true⟩
noncomputable def cx_law (P:Params):Cx:=⟨(fd_law P).scope,[.loc "script",.loc "some",.loc "old",.loc "other",.loc "half",.loc "octets",.loc "between",.loc "at",.loc "sign",.loc "params",.loc "look"]++(deckFn).map .fld,some (.cell "deck",false),true⟩
theorem d_law {G:Top0} {P:Params} {K:Frag} (H:Gl G K) (W:Wr G K) (f_law_deck:FnD G 1 "_law_deck" 1 F_law_deck) (f_law_draw:FnO G 1 "_law_draw" false deckFn 1 F_law_draw) (f_law_leads_right:FnV G 6 "_law_leads_right" 2 F_law_leads_right) (f_law_look:FnO G 2 "_law_look" false deckFn 0 F_law_look) (f_law_seen:FnV G 3 "_law_seen" 2 F_law_seen) (f_apply_sgr:FnV G 4 "apply_sgr" 2 F_apply_sgr) (f_params_octets:FnV G 3 "params_octets" 1 F_params_octets) (f_read_params:FnV G 4 "read_params" 1 F_read_params):SemW G 6 (cx0_law P) (bodyOf (fd_law P)) F_law_body:=
  (by
  refine SemW.getD (cx:=cx_law P) (pre:=[.loc "script",.loc "some",.loc "old",.loc "other",.loc "half",.loc "octets",.loc "between",.loc "at",.loc "sign",.loc "params",.loc "look"]) (p:= .cell "deck") ?_ ?_ f_law_deck ?_ ?_ ?_ ?_ ?_ ?_ ?_ ?_
  · exact ⟨rfl,CxObj.of rfl rfl rfl rfl,rfl,rfl,rfl,of_decide_eq_true rfl,of_decide_eq_true rfl⟩
  · exact StoresG.cell rfl rfl rfl
  · decide
  · rfl
  · rfl
  · exact (za (zb rfl rfl rfl) ze rfl)
  · rfl
  · rfl
  · exact (fun _=>rfl)
  · exact (SemB.toW (zd (SemS.cB (pre:=[.loc "script",.loc "some",.loc "old",.loc "other",.loc "half",.loc "octets",.loc "between",.loc "at",.loc "sign",.loc "params",.loc "look"]) [] (CxObj.of (pre:=[.loc "script",.loc "some",.loc "old",.loc "other",.loc "half",.loc "octets",.loc "between",.loc "at",.loc "sign",.loc "params",.loc "look"]) rfl rfl rfl rfl) rfl (of_decide_eq_true rfl) (of_decide_eq_true rfl) ⟨rfl,by simp⟩ rfl (SemI.range (Bi.mk H.n_range H.b_range rfl rfl) (zh zc (SemE.fnO (pre:=[.loc "script",.loc "some",.loc "old",.loc "other",.loc "half",.loc "octets",.loc "between",.loc "at",.loc "sign",.loc "params",.loc "look"]) f_law_draw (by decide) (CxObj.of (pre:=[.loc "script",.loc "some",.loc "old",.loc "other",.loc "half",.loc "octets",.loc "between",.loc "at",.loc "sign",.loc "params",.loc "look"]) rfl rfl rfl rfl) (SemObj.cell rfl rfl rfl) (za zc ze rfl) rfl rfl rfl rfl)) rfl) SemTs.nil (zj (zm H.g_law_pieces rfl rfl) (SemE.fnO (pre:=[.loc "turn"]) f_law_draw (by decide) (CxObj.of (pre:=[.loc "turn"]) rfl rfl rfl rfl) (SemObj.cell rfl rfl rfl) (za (SemE.len (Bi.mk H.n_len H.b_len rfl rfl) (zm H.g_law_pieces rfl rfl) rfl) ze rfl) rfl rfl rfl rfl) (fun _ _=>⟨_,rfl⟩)) (fun _ _=>rfl) (zg rfl rfl) (swaps_of rfl))
  (zd (SemS.tupR (ns:=["old","other"]) (zp (zy (SemE.fnO (pre:=[.loc "script",.loc "some",.loc "old",.loc "other",.loc "half",.loc "octets",.loc "between",.loc "at",.loc "sign",.loc "params",.loc "look"]) f_law_look (by decide) (CxObj.of (pre:=[.loc "script",.loc "some",.loc "old",.loc "other",.loc "half",.loc "octets",.loc "between",.loc "at",.loc "sign",.loc "params",.loc "look"]) rfl rfl rfl rfl) (SemObj.cell rfl rfl rfl) ze rfl rfl rfl rfl)) rfl (zp (zy (SemE.fnO (pre:=[.loc "script",.loc "some",.loc "old",.loc "other",.loc "half",.loc "octets",.loc "between",.loc "at",.loc "sign",.loc "params",.loc "look"]) f_law_look (by decide) (CxObj.of (pre:=[.loc "script",.loc "some",.loc "old",.loc "other",.loc "half",.loc "octets",.loc "between",.loc "at",.loc "sign",.loc "params",.loc "look"]) rfl rfl rfl rfl) (SemObj.cell rfl rfl rfl) ze rfl rfl rfl rfl)) rfl SemParts.nil)) (fun _=>(zw (zg rfl rfl) (fun h=>wpAny_bindName h) (zw (zg rfl rfl) (fun h=>wpAny_bindName h) Sets.nil))) (by decide) (fun _=>rfl) (by intro env he;cases env;cases he;rfl) rfl)
  (zd (zo (zi (SemE.fnO (pre:=[.loc "script",.loc "some",.loc "old",.loc "other",.loc "half",.loc "octets",.loc "between",.loc "at",.loc "sign",.loc "params",.loc "look"]) f_law_draw (by decide) (CxObj.of (pre:=[.loc "script",.loc "some",.loc "old",.loc "other",.loc "half",.loc "octets",.loc "between",.loc "at",.loc "sign",.loc "params",.loc "look"]) rfl rfl rfl rfl) (SemObj.cell rfl rfl rfl) (za zc ze rfl) rfl rfl rfl rfl) zc rfl) (zd (zq (zg rfl rfl) (zk (SemL.add (zk (SemL.mul (zk (zt (za (zj (zb rfl rfl rfl) zc (fun _ _=>⟨_,rfl⟩)) ze rfl) (by decide))) zc)) (zb rfl rfl rfl))) (fun _=>rfl))
  zf) zf)
  (zd (zq (zg rfl rfl) (SemE.fnO (pre:=[.loc "script",.loc "some",.loc "old",.loc "other",.loc "half",.loc "octets",.loc "between",.loc "at",.loc "sign",.loc "params",.loc "look"]) f_law_draw (by decide) (CxObj.of (pre:=[.loc "script",.loc "some",.loc "old",.loc "other",.loc "half",.loc "octets",.loc "between",.loc "at",.loc "sign",.loc "params",.loc "look"]) rfl rfl rfl rfl) (SemObj.cell rfl rfl rfl) (za (zh (SemE.len (Bi.mk H.n_len H.b_len rfl rfl) (zb rfl rfl rfl) rfl) zc) ze rfl) rfl rfl rfl rfl) (fun _=>rfl))
  (zd (zq (zg rfl rfl) (SemE.join zu (zb rfl rfl rfl) rfl (fun _ _=>rfl) rfl) (fun _=>rfl))
  (zd (zo (SemT.all (SemAll.and (zi (SemE.count (zb rfl rfl rfl) zu rfl (fun _ _=>rfl) rfl) zc rfl) (SemAll.and1 (SemT.cmp2 zc (zb rfl rfl rfl) (SemE.len (Bi.mk H.n_len H.b_len rfl rfl) (zb rfl rfl rfl) rfl) rfl)))) (zd (zq (zg rfl rfl) (zs f_apply_sgr (by decide) (za (zb rfl rfl rfl) (za (zs f_read_params (by decide) (za (SemE.join zu (zk (SemL.slc (zb rfl rfl rfl) SemO.none (zv (zb rfl rfl rfl)))) rfl (fun _ _=>rfl) rfl) ze rfl) rfl rfl rfl rfl) ze rfl) rfl) rfl rfl rfl rfl) (fun _=>rfl))
  (zd (zo (zi (zs f_apply_sgr (by decide) (za (zb rfl rfl rfl) (za (zs f_read_params (by decide) (za (SemE.join zu (zk (SemL.slc (zb rfl rfl rfl) (zv (zb rfl rfl rfl)) SemO.none)) rfl (fun _ _=>rfl) rfl) ze rfl) rfl rfl rfl rfl) ze rfl) rfl) rfl rfl rfl rfl) (zs f_apply_sgr (by decide) (za (zb rfl rfl rfl) (za (zs f_read_params (by decide) (za (zb rfl rfl rfl) ze rfl) rfl rfl rfl rfl) ze rfl) rfl) rfl rfl rfl rfl) rfl) (zd (zl SemE.bool)
  zf) zf)
  zf)) zf)
  (zd (zq (zg rfl rfl) (zh (zb rfl rfl rfl) (zj (zr (za zu (za zu (za zu (za zu ze rfl) rfl) rfl) rfl) (by decide)) (SemE.fnO (pre:=[.loc "script",.loc "some",.loc "old",.loc "other",.loc "half",.loc "octets",.loc "between",.loc "at",.loc "sign",.loc "params",.loc "look"]) f_law_draw (by decide) (CxObj.of (pre:=[.loc "script",.loc "some",.loc "old",.loc "other",.loc "half",.loc "octets",.loc "between",.loc "at",.loc "sign",.loc "params",.loc "look"]) rfl rfl rfl rfl) (SemObj.cell rfl rfl rfl) (za zc ze rfl) rfl rfl rfl rfl) (fun _ _=>⟨_,rfl⟩))) (fun _=>rfl))
  (zd (SemS.tupR (ns:=["at","sign"]) (zp (zy (SemE.fnO (pre:=[.loc "script",.loc "some",.loc "old",.loc "other",.loc "half",.loc "octets",.loc "between",.loc "at",.loc "sign",.loc "params",.loc "look"]) f_law_draw (by decide) (CxObj.of (pre:=[.loc "script",.loc "some",.loc "old",.loc "other",.loc "half",.loc "octets",.loc "between",.loc "at",.loc "sign",.loc "params",.loc "look"]) rfl rfl rfl rfl) (SemObj.cell rfl rfl rfl) (za (zh (SemE.len (Bi.mk H.n_len H.b_len rfl rfl) (zb rfl rfl rfl) rfl) zc) ze rfl) rfl rfl rfl rfl)) rfl (zp (zy (zj (zr (za zu (za zu (za zu (za zu (za zu (za zu ze rfl) rfl) rfl) rfl) rfl) rfl) (by decide)) (SemE.fnO (pre:=[.loc "script",.loc "some",.loc "old",.loc "other",.loc "half",.loc "octets",.loc "between",.loc "at",.loc "sign",.loc "params",.loc "look"]) f_law_draw (by decide) (CxObj.of (pre:=[.loc "script",.loc "some",.loc "old",.loc "other",.loc "half",.loc "octets",.loc "between",.loc "at",.loc "sign",.loc "params",.loc "look"]) rfl rfl rfl rfl) (SemObj.cell rfl rfl rfl) (za zc ze rfl) rfl rfl rfl rfl) (fun _ _=>⟨_,rfl⟩))) rfl SemParts.nil)) (fun _=>(zw (zg rfl rfl) (fun h=>wpAny_bindName h) (zw (zg rfl rfl) (fun h=>wpAny_bindName h) Sets.nil))) (by decide) (fun _=>rfl) (by intro env he;cases env;cases he;rfl) rfl)
  (zd (zq (zg rfl rfl) (zs f_read_params (by decide) (za (zh (zh (SemE.slc (zb rfl rfl rfl) SemO.none (zv (zb rfl rfl rfl))) (SemE.ite (zi (zb rfl rfl rfl) zu rfl) (zb rfl rfl rfl) zu)) (SemE.slc (zb rfl rfl rfl) (zv (zb rfl rfl rfl)) SemO.none)) ze rfl) rfl rfl rfl rfl) (fun _=>rfl))
  (zd (zq (zg rfl rfl) (zs f_law_seen (by decide) (za (zb rfl rfl rfl) (za (zb rfl rfl rfl) ze rfl) rfl) rfl rfl rfl rfl) (fun _=>rfl))
  (zd (zo (SemT.all (SemAll.or (zi (zs f_apply_sgr (by decide) (za (zb rfl rfl rfl) (za (zb rfl rfl rfl) ze rfl) rfl) rfl rfl rfl rfl) (zb rfl rfl rfl) rfl) (SemAll.or1 (zi (zs f_apply_sgr (by decide) (za (zb rfl rfl rfl) (za (zs f_read_params (by decide) (za (zs f_params_octets (by decide) (za (zb rfl rfl rfl) ze rfl) rfl rfl rfl rfl) ze rfl) rfl rfl rfl rfl) ze rfl) rfl) rfl rfl rfl rfl) (zb rfl rfl rfl) rfl)))) (zd (zl SemE.bool)
  zf) zf)
  (zd (zl (SemE.and3 (zs f_law_leads_right (by decide) (za (zb rfl rfl rfl) (za (zb rfl rfl rfl) ze rfl) rfl) rfl rfl rfl rfl) (SemE.and2 (zs f_law_leads_right (by decide) (za (zb rfl rfl rfl) (za (zb rfl rfl rfl) ze rfl) rfl) rfl rfl rfl rfl) (zs f_law_leads_right (by decide) (za (zb rfl rfl rfl) (za (zb rfl rfl rfl) ze rfl) rfl) rfl rfl rfl rfl))))
  zf))))))))))))))
end Mine
end
section
open PySem PySem.Calls PyProof.Rows PySem.W
set_option maxHeartbeats 4000000
namespace Mine
theorem len0 {α:Type} {vs:List α} {C:List α→Prop} (h:vs.length=0) (k:C []):C vs:=List.length_eq_zero_iff.mp h ▸ k
theorem lenS {α:Type} {n:Nat} {vs:List α} {C:List α→Prop} (h:vs.length=n+1) (k:∀ a r,r.length=n→C (a::r)):C vs:=by
  rcases vs with _ | ⟨a,r⟩
  · exact absurd h (Nat.succ_ne_zero n).symm
  · exact k a r (Nat.succ.inj h)
theorem len1 {α:Type} {vs:List α} {C:List α→Prop} (h:vs.length=1) (k:∀ a,C [a]):C vs:=lenS h fun a _ h=>len0 (C:=fun r=>C (a::r)) h (k a)
theorem len2 {α:Type} {vs:List α} {C:List α→Prop} (h:vs.length=2) (k:∀ a b,C [a,b]):C vs:=lenS h fun a _ h=>len1 (C:=fun r=>C (a::r)) h (k a)
theorem len3 {α:Type} {vs:List α} {C:List α→Prop} (h:vs.length=3) (k:∀ a b c,C [a,b,c]):C vs:=lenS h fun a _ h=>len2 (C:=fun r=>C (a::r)) h (k a)
theorem bt0 {s:Shared} {fd:FuncData} {pn:List Str} {vs:List Value} (h:vs.length=0) (k:BindsTo s fd ⟨[],[]⟩ (pn.zip [])):BindsTo s fd ⟨vs,[]⟩ (pn.zip vs):=len0 (C:=fun vs=>BindsTo s fd ⟨vs,[]⟩ (pn.zip vs)) h k
theorem bt1 {s:Shared} {fd:FuncData} {pn:List Str} {vs:List Value} (h:vs.length=1) (k:∀ a,BindsTo s fd ⟨[a],[]⟩ (pn.zip [a])):BindsTo s fd ⟨vs,[]⟩ (pn.zip vs):=len1 (C:=fun vs=>BindsTo s fd ⟨vs,[]⟩ (pn.zip vs)) h k
theorem bt2 {s:Shared} {fd:FuncData} {pn:List Str} {vs:List Value} (h:vs.length=2) (k:∀ a b,BindsTo s fd ⟨[a,b],[]⟩ (pn.zip [a,b])):BindsTo s fd ⟨vs,[]⟩ (pn.zip vs):=len2 (C:=fun vs=>BindsTo s fd ⟨vs,[]⟩ (pn.zip vs)) h k
theorem bt3 {s:Shared} {fd:FuncData} {pn:List Str} {vs:List Value} (h:vs.length=3) (k:∀ a b c,BindsTo s fd ⟨[a,b,c],[]⟩ (pn.zip [a,b,c])):BindsTo s fd ⟨vs,[]⟩ (pn.zip vs):=len3 (C:=fun vs=>BindsTo s fd ⟨vs,[]⟩ (pn.zip vs)) h k
theorem bd2 {s:Shared} {fd:FuncData} {pn:List Str} {vs ws:List Value} (h:vs.length=2) (k:∀ a b,BindsTo s fd ⟨[a,b],[]⟩ (pn.zip ([a,b]++ws))):BindsTo s fd ⟨vs,[]⟩ (pn.zip (vs++ws)):=len2 (C:=fun vs=>BindsTo s fd ⟨vs,[]⟩ (pn.zip (vs++ws))) h k
theorem bd1 {s:Shared} {fd:FuncData} {pn:List Str} {vs ws:List Value} (h:vs.length=1) (k:∀ a,BindsTo s fd ⟨[a],[]⟩ (pn.zip ([a]++ws))):BindsTo s fd ⟨vs,[]⟩ (pn.zip (vs++ws)):=len1 (C:=fun vs=>BindsTo s fd ⟨vs,[]⟩ (pn.zip (vs++ws))) h k
noncomputable abbrev KH (P:Params):Frag:=Mine.hd.heap_39 P
structure Gd (G:Top0) (P:Params):Prop where
  X:∀ h,G.gB.inH h→(KH P).In h
  gB:∀ a o,(KH P).lookup a=some o→G.gB a=some o
  mg:∀ x r,nsIn (KH P) 3 x=some r→G.mg x=r
  cls:G.cls=115
theorem Gd.fnd {G:Top0} {P:Params} (D:Gd G P) (name:Str) (r:Option Value) (h:findIn (KH P) (.ref 115) name=some r):findIn (KH P) (.ref G.cls) name=some r:=by rw [D.cls];exact h
theorem noFld {l:List Loc} (h:l.any isFld=false):∀ n,Loc.fld n ∉ l:=fun n hn=>by
  have:=List.any_eq_false.mp h _ hn
  simp [isFld] at this
theorem Gd.cr {G:Top0} {P:Params} (D:Gd G P) {c:Value} {q:Str} (e:codeIn (KH P) c q=true):∀ h,G.gB.inH h→h.CodeRec c q:=fun h k=>codeRec_of (D.X h k) e
theorem dt {p:Prop} [Decidable p] (h:decide p=true):p:=of_decide_eq_true h
theorem CallV.mk0 {G:Top0} {N:Nat} {cx:Cx} {a:Addr} {o:Obj} {fd:FuncData} {pn:List Str} {body:List Stmt} {f:SF} (ho:G.gB a=some o) (hd:o.data= .func fd) (K:FnOk fd cx pn body)
    (hof:cx.obj=none) (hnf:∀ n,Loc.fld n ∉ cx.places) (hcd:∀ h,G.gB.inH h→h.CodeRec fd.code fd.qualname)
    (hbind:∀ s vs,G.gB.inH s.heap→vs.length=pn.length→BindsTo s fd ⟨vs,[]⟩ (pn.zip vs)) (hS:SemW G N cx body f):
    CallV G (N+1) a pn.length (runV cx.places.length f):=by
  have h:CallV G (N+1) a pn.length (fun xs=>runV cx.places.length f (xs++[])):=CallV.mk (ws:=[]) (es:=[]) ho hd K hof hnf hcd .nil rfl (fun s vs x e=>by rw [List.append_nil];exact hbind s vs x e) hS
  have e:(fun xs=>runV cx.places.length f (xs++[]))=runV cx.places.length f:=by funext xs;rw [List.append_nil]
  exact e ▸ @h
theorem mg_of {K:Frag} {h:Heap} {a:Addr} {m:Str→Option Value} (X:K.In h) (N:h.Ns a m) {x:Str} {r:Option Value} (e:nsIn K a x=some r):m x=r:=by
  obtain ⟨o,es,ep,ho,hd,_,hf⟩:=N
  rw [← hf x]
  unfold nsIn at e
  split at e
  · rename_i c d es' n sl hl
    have:=(X _ _ hl).symm.trans ho
    cases this
    cases hd
    obtain ⟨l⟩:=es
    unfold nsFind findBy
    rw [List.find?_toArray]
    dsimp only at e ⊢
    split at e
    · rename_i e' h';rw [h'];exact Option.some.inj e
    · rename_i h'
      rw [h']
      split at e
      · cases e
      · exact Option.some.inj e
  · cases e
noncomputable def atomIn (v:Value) (d:V):Bool:=match d with
  | .none=>(match v with | .none=>true | _=>false)
  | .bool b=>(match v with | .bool a=>a==b | _=>false)
  | .int i=>(match v with | .int j _=>j==i | _=>false)
  | .bytes l=>(match v with | .bytes b _=>b.toList==l | _=>false)
  | _=>false
noncomputable def atomsIn:List Value→List V→Bool
  | [],[]=>true
  | v::vs,d::ds=>atomIn v d && atomsIn vs ds
  | _,_=>false
theorem atom_rel {prog:Program} {w:World} {g:Gh} {v:Value} {d:V} (h:atomIn v d=true):Rel prog w g v d:=by
  revert h
  induction d using V.cs with
  | none=>cases v with
    | none=>exact fun _=> .none
    | _=>exact ftE
  | bool b=>cases v with
    | bool a=>exact fun h=>beq_iff_eq.mp h ▸ .bool _
    | _=>exact ftE
  | int i=>cases v with
    | int j t=>exact fun h=>beq_iff_eq.mp h ▸ .int _ _
    | _=>exact ftE
  | bytes l=>cases v with
    | bytes b t=>exact fun h=> .bytes (beq_iff_eq.mp h)
    | _=>exact ftE
  | _=>exact ftE
theorem atoms_rel {prog:Program} {w:World} {g:Gh}:∀ {vs:List Value} {ds:List V},atomsIn vs ds=true→Rels prog w g vs ds
  | [],[],_=> .nil
  | _::_,_::_,h=> .cons (atom_rel (Bool.and_eq_true_iff.mp h).1) (atoms_rel (Bool.and_eq_true_iff.mp h).2)
noncomputable def valIn (K:Frag) (x:Str) (d:V):Bool:=match nsIn K 3 x with
  | some (some v)=>atomIn v d
  | _=>false
noncomputable def refIn (K:Frag) (x:Str):Addr:=match nsIn K 3 x with
  | some (some (.ref a))=>a
  | _=>0
noncomputable def itemsIn (K:Frag) (a:Addr):List Value:=match K.lookup a with
  | some o=>(match o.data with | .seq vs _=>vs.toList | _=>[])
  | none=>[]
theorem gl_atom {G:Top0} {P:Params} (D:Gd G P) {x:Str} {d:V} (h:valIn (KH P) x d=true):GlobV G x d:=by
  unfold valIn at h
  split at h
  · rename_i v hv;exact ⟨v,D.mg _ _ hv,atom_rel h⟩
  · cases h
theorem gl_tup {G:Top0} {P:Params} (D:Gd G P) {x:Str} {ds:List V} (h1:nsIn (KH P) 3 x=some (some (.ref (refIn (KH P) x)))) (h2:(KH P).lookup (refIn (KH P) x)=some (TupO (itemsIn (KH P) (refIn (KH P) x)) 0)) (h3:atomsIn (itemsIn (KH P) (refIn (KH P) x)) ds=true):GlobV G x (.tup ds):=
  ⟨_,D.mg _ _ h1,.tup (D.gB _ _ h2) (atoms_rel h3)⟩
noncomputable def dflV (P:Params) (a:Addr):List Value:=itemsIn (KH P) a
theorem dflRels_read_params (G:Top0) (P:Params):Rels G.prog G.w G.gB (dflV P 120) [.int 32,.int 65535]:=atoms_rel (by kernel_rfl)
theorem dflRels_sgr_octets (G:Top0) (P:Params):Rels G.prog G.w G.gB (dflV P 222) [.bool true]:=atoms_rel (by kernel_rfl)
theorem wr_of {G:Top0} {P:Params} (D:Gd G P):Wr G (KH P):=⟨D.X,by
  rw [D.cls]
  refine ⟨by kernel_rfl,by kernel_rfl,by kernel_rfl,by kernel_rfl,by kernel_rfl,fun n hn=> ?_⟩
  unfold instNames at hn
  simp only [List.mem_cons,List.not_mem_nil,or_false] at hn
  rcases hn with rfl | rfl | rfl | rfl | rfl | rfl <;> kernel_rfl⟩
theorem gl_of {G:Top0} {P:Params} (D:Gd G P):Gl G (KH P) where
  g_BOLD:=gl_atom D (by kernel_rfl)
  g_FAINT:=gl_atom D (by kernel_rfl)
  g_ITALIC:=gl_atom D (by kernel_rfl)
  g_BLINK:=gl_atom D (by kernel_rfl)
  g_FAST:=gl_atom D (by kernel_rfl)
  g_INVERSE:=gl_atom D (by kernel_rfl)
  g_HIDDEN:=gl_atom D (by kernel_rfl)
  g_STRUCK:=gl_atom D (by kernel_rfl)
  g_OVERLINE:=gl_atom D (by kernel_rfl)
  g_UNDER_SHIFT:=gl_atom D (by kernel_rfl)
  g_UNDER_MASK:=gl_atom D (by kernel_rfl)
  g_NO_COLOUR:=gl_atom D (by kernel_rfl)
  g_DIRECT:=gl_atom D (by kernel_rfl)
  g_PLAIN:=gl_tup D (by kernel_rfl) (by kernel_rfl) (by kernel_rfl)
  g_FLAGS:=gl_atom D (by kernel_rfl)
  g_FORE:=gl_atom D (by kernel_rfl)
  g_BACK:=gl_atom D (by kernel_rfl)
  g_UNDER:=gl_atom D (by kernel_rfl)
  g_LINK:=gl_atom D (by kernel_rfl)
  g_FIGURE_FIRST:=gl_atom D (by kernel_rfl)
  g_FIGURE_LAST:=gl_atom D (by kernel_rfl)
  g_COLON:=gl_atom D (by kernel_rfl)
  g_SEMICOLON:=gl_atom D (by kernel_rfl)
  g_SGR_RESET:=gl_atom D (by kernel_rfl)
  g_SGR_FORE:=gl_atom D (by kernel_rfl)
  g_SGR_BACK:=gl_atom D (by kernel_rfl)
  g_SGR_UNDER:=gl_atom D (by kernel_rfl)
  g_FIRST_BRIGHT:=gl_atom D (by kernel_rfl)
  g_MOST_COLOUR:=gl_atom D (by kernel_rfl)
  g_law_pieces:=gl_tup D (by kernel_rfl) (by kernel_rfl) (by kernel_rfl)
  n_len:=D.mg _ _ (by kernel_rfl)
  b_len:=(G.bb _ (by decide)).trans (by kernel_rfl)
  n_min:=D.mg _ _ (by kernel_rfl)
  b_min:=(G.bb _ (by decide)).trans (by kernel_rfl)
  n_max:=D.mg _ _ (by kernel_rfl)
  b_max:=(G.bb _ (by decide)).trans (by kernel_rfl)
  n_bytes:=D.mg _ _ (by kernel_rfl)
  b_bytes:=(G.bb _ (by decide)).trans (by kernel_rfl)
  n_int:=D.mg _ _ (by kernel_rfl)
  b_int:=(G.bb _ (by decide)).trans (by kernel_rfl)
  n_list:=D.mg _ _ (by kernel_rfl)
  b_list:=(G.bb _ (by decide)).trans (by kernel_rfl)
  n_range:=D.mg _ _ (by kernel_rfl)
  b_range:=(G.bb _ (by decide)).trans (by kernel_rfl)
  cls:=by rw [D.cls];exact D.mg _ _ (by kernel_rfl)
  keep:=by rw [D.cls];kernel_rfl
  make:=by rw [D.cls];kernel_rfl
end Mine
end
section
open PySem PySem.Calls PyProof.Rows PySem.W
set_option maxHeartbeats 4000000
namespace Mine
local macro_rules | `(tactic| rfl)=> `(tactic| kernel_rfl)
theorem a_law_deck {G:Top0} {P:Params} (D:Gd G P) (H:Gl G (KH P)) (W:Wr G (KH P)):FnD G 1 "_law_deck" 1 F_law_deck:=
  ⟨282,hd.o_328 P,fd_law_deck P,D.mg _ _ (by rfl),D.gB _ _ (by rfl),by rfl,(CallD.mk (cx:=cx_law_deck P) (fd:=fd_law_deck P) (pn:=["script"]) (D.gB 282 (hd.o_328 P) (by rfl)) (by rfl) (FnOk.of (FdOk.b (by rfl)) (by rfl) (by rfl) (dt rfl) (dt rfl) (by rfl) (by rfl)) (by rfl) (noFld (by rfl)) (D.cr (by rfl)) (fun s vs _ hl=>bt1 hl fun _=>BindsTo.of_eq (by rfl)) (d_law_deck H W))⟩
theorem a_law_draw {G:Top0} {P:Params} (D:Gd G P) (H:Gl G (KH P)) (W:Wr G (KH P)):FnO G 1 "_law_draw" false deckFn 1 F_law_draw:=
  ⟨289,hd.o_335 P,fd_law_draw P,D.mg _ _ (by rfl),D.gB _ _ (by rfl),by rfl,(CallO.mk (cx:=cx_law_draw P) (fd:=fd_law_draw P) (on:="deck") (pn:=["many"]) (pre:=[.loc "many"]) (p:= .loc "deck") (D.gB 289 (hd.o_335 P) (by rfl)) (by rfl) (FnOkO.of (FdOk.b (by rfl)) (by rfl) (by rfl) (dt rfl) (dt rfl) (CxObj.of rfl rfl rfl rfl) (by rfl) (dt rfl) (by rfl) (by rfl)) (D.cr (by rfl)) (fun s vs _ hl=>bt2 hl fun _ _=>BindsTo.of_eq (by rfl)) (d_law_draw H W))⟩
theorem a_clear {G:Top0} {P:Params} (D:Gd G P) (H:Gl G (KH P)) (W:Wr G (KH P)):MethO G (KH P) 1 "clear" instNames 0 F_clear:=
  ⟨86,hd.o_126 P,fd_clear P,D.gB _ _ (by rfl),by rfl,(by decide),D.fnd _ _ (by rfl),(by rfl),(CallO.mk (cx:=cx_clear P) (fd:=fd_clear P) (on:="self") (pn:=[]) (pre:=[]) (p:= .loc "self") (D.gB 86 (hd.o_126 P) (by rfl)) (by rfl) (FnOkO.of (FdOk.b (by rfl)) (by rfl) (by rfl) (dt rfl) (dt rfl) (CxObj.of rfl rfl rfl rfl) (by rfl) (dt rfl) (by rfl) (by rfl)) (D.cr (by rfl)) (fun s vs _ hl=>bt1 hl fun _=>BindsTo.of_eq (by rfl)) (d_clear H W))⟩
theorem a_init__ {G:Top0} {P:Params} (D:Gd G P) (H:Gl G (KH P)) (W:Wr G (KH P)) (f_clear:MethO G (KH P) 1 "clear" instNames 0 F_clear):MethO G (KH P) 2 "__init__" instNames 2 F_init:=
  ⟨79,hd.o_119 P,fd_init__ P,D.gB _ _ (by rfl),by rfl,(by decide),D.fnd _ _ (by rfl),(by rfl),(CallO.mk (cx:=cx_init__ P) (fd:=fd_init__ P) (on:="self") (pn:=["most","limit"]) (pre:=[.loc "most",.loc "limit"]) (p:= .loc "self") (D.gB 79 (hd.o_119 P) (by rfl)) (by rfl) (FnOkO.of (FdOk.b (by rfl)) (by rfl) (by rfl) (dt rfl) (dt rfl) (CxObj.of rfl rfl rfl rfl) (by rfl) (dt rfl) (by rfl) (by rfl)) (D.cr (by rfl)) (fun s vs x hl=>bt3 hl fun _ _ _=>BindsTo.of_defaults (T:=72) (o:=TupO (dflV P 72) 0) (items:=(dflV P 72).toArray) (n:=0) (by rfl) (D.X _ x _ _ (by rfl)) rfl rfl (by rfl)) (d_init__ H W f_clear))⟩
theorem a_close_part {G:Top0} {P:Params} (D:Gd G P) (H:Gl G (KH P)) (W:Wr G (KH P)):MethO G (KH P) 1 "close_part" instNames 0 F_close_part:=
  ⟨100,hd.o_140 P,fd_close_part P,D.gB _ _ (by rfl),by rfl,(by decide),D.fnd _ _ (by rfl),(by rfl),(CallO.mk (cx:=cx_close_part P) (fd:=fd_close_part P) (on:="self") (pn:=[]) (pre:=[]) (p:= .loc "self") (D.gB 100 (hd.o_140 P) (by rfl)) (by rfl) (FnOkO.of (FdOk.b (by rfl)) (by rfl) (by rfl) (dt rfl) (dt rfl) (CxObj.of rfl rfl rfl rfl) (by rfl) (dt rfl) (by rfl) (by rfl)) (D.cr (by rfl)) (fun s vs _ hl=>bt1 hl fun _=>BindsTo.of_eq (by rfl)) (d_close_part H W))⟩
theorem a_close_parameter {G:Top0} {P:Params} (D:Gd G P) (H:Gl G (KH P)) (W:Wr G (KH P)):MethO G (KH P) 1 "close_parameter" instNames 0 F_close_parameter:=
  ⟨107,hd.o_147 P,fd_close_parameter P,D.gB _ _ (by rfl),by rfl,(by decide),D.fnd _ _ (by rfl),(by rfl),(CallO.mk (cx:=cx_close_parameter P) (fd:=fd_close_parameter P) (on:="self") (pn:=[]) (pre:=[]) (p:= .loc "self") (D.gB 107 (hd.o_147 P) (by rfl)) (by rfl) (FnOkO.of (FdOk.b (by rfl)) (by rfl) (by rfl) (dt rfl) (dt rfl) (CxObj.of rfl rfl rfl rfl) (by rfl) (dt rfl) (by rfl) (by rfl)) (D.cr (by rfl)) (fun s vs _ hl=>bt1 hl fun _=>BindsTo.of_eq (by rfl)) (d_close_parameter H W))⟩
theorem a_put {G:Top0} {P:Params} (D:Gd G P) (H:Gl G (KH P)) (W:Wr G (KH P)) (f_close_parameter:MethO G (KH P) 1 "close_parameter" instNames 0 F_close_parameter) (f_close_part:MethO G (KH P) 1 "close_part" instNames 0 F_close_part):MethO G (KH P) 2 "put" instNames 1 F_put:=
  ⟨93,hd.o_133 P,fd_put P,D.gB _ _ (by rfl),by rfl,(by decide),D.fnd _ _ (by rfl),(by rfl),(CallO.mk (cx:=cx_put P) (fd:=fd_put P) (on:="self") (pn:=["octet"]) (pre:=[.loc "octet",.loc "ahead"]) (p:= .loc "self") (D.gB 93 (hd.o_133 P) (by rfl)) (by rfl) (FnOkO.of (FdOk.b (by rfl)) (by rfl) (by rfl) (dt rfl) (dt rfl) (CxObj.of rfl rfl rfl rfl) (by rfl) (dt rfl) (by rfl) (by rfl)) (D.cr (by rfl)) (fun s vs _ hl=>bt2 hl fun _ _=>BindsTo.of_eq (by rfl)) (d_put H W f_close_parameter f_close_part))⟩
theorem a_params {G:Top0} {P:Params} (D:Gd G P) (H:Gl G (KH P)) (W:Wr G (KH P)):MethO G (KH P) 1 "params" instNames 0 F_params:=
  ⟨112,hd.o_152 P,fd_params P,D.gB _ _ (by rfl),by rfl,(by decide),D.fnd _ _ (by rfl),(by rfl),(CallO.mk (cx:=cx_params P) (fd:=fd_params P) (on:="self") (pn:=[]) (pre:=[.loc "parts",.loc "found"]) (p:= .loc "self") (D.gB 112 (hd.o_152 P) (by rfl)) (by rfl) (FnOkO.of (FdOk.b (by rfl)) (by rfl) (by rfl) (dt rfl) (dt rfl) (CxObj.of rfl rfl rfl rfl) (by rfl) (dt rfl) (by rfl) (by rfl)) (D.cr (by rfl)) (fun s vs _ hl=>bt1 hl fun _=>BindsTo.of_eq (by rfl)) (d_params H W))⟩
theorem a_read_params {G:Top0} {P:Params} (D:Gd G P) (H:Gl G (KH P)) (W:Wr G (KH P)) (f___init__:MethO G (KH P) 2 "__init__" instNames 2 F_init) (f_params:MethO G (KH P) 1 "params" instNames 0 F_params) (f_put:MethO G (KH P) 2 "put" instNames 1 F_put):FnV G 4 "read_params" 1 F_read_params:=
  ⟨127,hd.o_169 P,fd_read_params P,D.mg _ _ (by rfl),D.gB _ _ (by rfl),by rfl,(CallV.mk (cx:=cx0_read_params P) (fd:=fd_read_params P) (pn:=["octets","most","limit"]) (k:=1) (D.gB 127 (hd.o_169 P) (by rfl)) (by rfl) (FnOk.of (FdOk.b (by rfl)) (by rfl) (by rfl) (dt rfl) (dt rfl) (by rfl) (by rfl)) (by rfl) (noFld (by rfl)) (D.cr (by rfl)) (dflRels_read_params G P) (by rfl) (fun s vs x hl=>bd1 hl fun _=>BindsTo.of_defaults (T:=120) (o:=TupO (dflV P 120) 0) (items:=(dflV P 120).toArray) (n:=0) (by rfl) (D.X _ x _ _ (by rfl)) rfl rfl (by rfl)) (d_read_params H W f___init__ f_params f_put))⟩
theorem a_law_value {G:Top0} {P:Params} (D:Gd G P) (H:Gl G (KH P)) (W:Wr G (KH P)):FnV G 1 "_law_value" 1 F_law_value:=
  ⟨301,hd.o_347 P,fd_law_value P,D.mg _ _ (by rfl),D.gB _ _ (by rfl),by rfl,(CallV.mk0 (cx:=cx_law_value P) (fd:=fd_law_value P) (pn:=["octets"]) (D.gB 301 (hd.o_347 P) (by rfl)) (by rfl) (FnOk.of (FdOk.b (by rfl)) (by rfl) (by rfl) (dt rfl) (dt rfl) (by rfl) (by rfl)) (by rfl) (noFld (by rfl)) (D.cr (by rfl)) (fun s vs _ hl=>bt1 hl fun _=>BindsTo.of_eq (by rfl)) (SemB.toW (d_law_value H W)))⟩
theorem a_law_parted {G:Top0} {P:Params} (D:Gd G P) (H:Gl G (KH P)) (W:Wr G (KH P)) (f_law_value:FnV G 1 "_law_value" 1 F_law_value):FnV G 2 "_law_parted" 1 F_law_parted:=
  ⟨306,hd.o_352 P,fd_law_parted P,D.mg _ _ (by rfl),D.gB _ _ (by rfl),by rfl,(CallV.mk0 (cx:=cx_law_parted P) (fd:=fd_law_parted P) (pn:=["octets"]) (D.gB 306 (hd.o_352 P) (by rfl)) (by rfl) (FnOk.of (FdOk.b (by rfl)) (by rfl) (by rfl) (dt rfl) (dt rfl) (by rfl) (by rfl)) (by rfl) (noFld (by rfl)) (D.cr (by rfl)) (fun s vs _ hl=>bt1 hl fun _=>BindsTo.of_eq (by rfl)) (SemB.toW (d_law_parted H W f_law_value)))⟩
theorem a_law_hue {G:Top0} {P:Params} (D:Gd G P) (H:Gl G (KH P)) (W:Wr G (KH P)):FnV G 1 "_law_hue" 2 F_law_hue:=
  ⟨311,hd.o_357 P,fd_law_hue P,D.mg _ _ (by rfl),D.gB _ _ (by rfl),by rfl,(CallV.mk0 (cx:=cx_law_hue P) (fd:=fd_law_hue P) (pn:=["kind","parts"]) (D.gB 311 (hd.o_357 P) (by rfl)) (by rfl) (FnOk.of (FdOk.b (by rfl)) (by rfl) (by rfl) (dt rfl) (dt rfl) (by rfl) (by rfl)) (by rfl) (noFld (by rfl)) (D.cr (by rfl)) (fun s vs _ hl=>bt2 hl fun _ _=>BindsTo.of_eq (by rfl)) (SemB.toW (d_law_hue H W)))⟩
theorem a_law_turns {G:Top0} {P:Params} (D:Gd G P) (H:Gl G (KH P)) (W:Wr G (KH P)):FnV G 1 "_law_turns" 0 F_law_turns:=
  by
  have h1:=D.mg "_law_turns" _ (by rfl:nsIn (KH P) 3 "_law_turns"=some (some (.ref 277)))
  have h2:=D.gB 277 (hd.o_323 P) (by rfl)
  have h3:(hd.o_323 P).data= .func (fd_law_turns P):=by rfl
  have h4:FnOk (fd_law_turns P) (cx_law_turns P) [] (bodyOf (fd_law_turns P)):=FnOk.of (FdOk.b (by rfl)) (by rfl) (by rfl) (dt rfl) (dt rfl) (by rfl) (by rfl)
  have h50:SemB G 0 (cx_law_turns P) (bodyOf (fd_law_turns P)) F_law_turns_body:= @d_law_turns G P (KH P) H W
  have h5:SemW G 0 (cx_law_turns P) (bodyOf (fd_law_turns P)) F_law_turns_body:= @SemB.toW G 0 (cx_law_turns P) (bodyOf (fd_law_turns P)) F_law_turns_body @h50
  have h6:CallV G (0+1) 277 ([]:List Str).length (runV (cx_law_turns P).places.length F_law_turns_body):=CallV.mk0 h2 h3 h4 (by rfl) (noFld (by rfl)) (D.cr (by rfl)) (fun s vs _ hl=>bt0 hl <| BindsTo.of_eq (by rfl)) @h5
  exact ⟨277,hd.o_323 P,fd_law_turns P,h1,h2,h3,h6⟩
theorem a_law_seen {G:Top0} {P:Params} (D:Gd G P) (H:Gl G (KH P)) (W:Wr G (KH P)) (f_law_hue:FnV G 1 "_law_hue" 2 F_law_hue) (f_law_parted:FnV G 2 "_law_parted" 1 F_law_parted) (f_law_turns:FnV G 1 "_law_turns" 0 F_law_turns):FnV G 3 "_law_seen" 2 F_law_seen:=
  ⟨316,hd.o_362 P,fd_law_seen P,D.mg _ _ (by rfl),D.gB _ _ (by rfl),by rfl,(CallV.mk0 (cx:=cx_law_seen P) (fd:=fd_law_seen P) (pn:=["look","octets"]) (D.gB 316 (hd.o_362 P) (by rfl)) (by rfl) (FnOk.of (FdOk.b (by rfl)) (by rfl) (by rfl) (dt rfl) (dt rfl) (by rfl) (by rfl)) (by rfl) (noFld (by rfl)) (D.cr (by rfl)) (fun s vs _ hl=>bt2 hl fun _ _=>BindsTo.of_eq (by rfl)) (SemB.toW (d_law_seen H W f_law_hue f_law_parted f_law_turns)))⟩
theorem a_law_look {G:Top0} {P:Params} (D:Gd G P) (H:Gl G (KH P)) (W:Wr G (KH P)) (f_law_draw:FnO G 1 "_law_draw" false deckFn 1 F_law_draw):FnO G 2 "_law_look" false deckFn 0 F_law_look:=
  ⟨294,hd.o_340 P,fd_law_look P,D.mg _ _ (by rfl),D.gB _ _ (by rfl),by rfl,(CallO.mk (cx:=cx_law_look P) (fd:=fd_law_look P) (on:="deck") (pn:=[]) (pre:=[.cell "some",.loc "hues"]) (p:= .cell "deck") (D.gB 294 (hd.o_340 P) (by rfl)) (by rfl) (FnOkO.of (FdOk.b (by rfl)) (by rfl) (by rfl) (dt rfl) (dt rfl) (CxObj.of rfl rfl rfl rfl) (by rfl) (dt rfl) (by rfl) (by rfl)) (D.cr (by rfl)) (fun s vs _ hl=>bt1 hl fun _=>BindsTo.of_eq (by rfl)) (d_law_look H W f_law_draw))⟩
theorem a_direct_colour {G:Top0} {P:Params} (D:Gd G P) (H:Gl G (KH P)) (W:Wr G (KH P)):FnV G 1 "direct_colour" 3 F_direct_colour:=
  ⟨64,hd.o_102 P,fd_direct_colour P,D.mg _ _ (by rfl),D.gB _ _ (by rfl),by rfl,(CallV.mk0 (cx:=cx_direct_colour P) (fd:=fd_direct_colour P) (pn:=["red","green","blue"]) (D.gB 64 (hd.o_102 P) (by rfl)) (by rfl) (FnOk.of (FdOk.b (by rfl)) (by rfl) (by rfl) (dt rfl) (dt rfl) (by rfl) (by rfl)) (by rfl) (noFld (by rfl)) (D.cr (by rfl)) (fun s vs _ hl=>bt3 hl fun _ _ _=>BindsTo.of_eq (by rfl)) (SemB.toW (d_direct_colour H W)))⟩
theorem a_pen_colour_of {G:Top0} {P:Params} (D:Gd G P) (H:Gl G (KH P)) (W:Wr G (KH P)) (f_direct_colour:FnV G 1 "direct_colour" 3 F_direct_colour):FnV G 2 "pen_colour_of" 2 F_pen_colour_of:=
  ⟨159,hd.o_201 P,fd_pen_colour_of P,D.mg _ _ (by rfl),D.gB _ _ (by rfl),by rfl,(CallV.mk0 (cx:=cx_pen_colour_of P) (fd:=fd_pen_colour_of P) (pn:=["kind","parts"]) (D.gB 159 (hd.o_201 P) (by rfl)) (by rfl) (FnOk.of (FdOk.b (by rfl)) (by rfl) (by rfl) (dt rfl) (dt rfl) (by rfl) (by rfl)) (by rfl) (noFld (by rfl)) (D.cr (by rfl)) (fun s vs _ hl=>bt2 hl fun _ _=>BindsTo.of_eq (by rfl)) (SemB.toW (d_pen_colour_of H W f_direct_colour)))⟩
theorem a_pen_with {G:Top0} {P:Params} (D:Gd G P) (H:Gl G (KH P)) (W:Wr G (KH P)):FnV G 1 "pen_with" 3 F_pen_with:=
  ⟨29,hd.o_65 P,fd_pen_with P,D.mg _ _ (by rfl),D.gB _ _ (by rfl),by rfl,(CallV.mk0 (cx:=cx_pen_with P) (fd:=fd_pen_with P) (pn:=["pen","place","value"]) (D.gB 29 (hd.o_65 P) (by rfl)) (by rfl) (FnOk.of (FdOk.b (by rfl)) (by rfl) (by rfl) (dt rfl) (dt rfl) (by rfl) (by rfl)) (by rfl) (noFld (by rfl)) (D.cr (by rfl)) (fun s vs _ hl=>bt3 hl fun _ _ _=>BindsTo.of_eq (by rfl)) (SemB.toW (d_pen_with H W)))⟩
theorem a_flags_with_under {G:Top0} {P:Params} (D:Gd G P) (H:Gl G (KH P)) (W:Wr G (KH P)):FnV G 1 "flags_with_under" 2 F_flags_with_under:=
  ⟨43,hd.o_79 P,fd_flags_with_under P,D.mg _ _ (by rfl),D.gB _ _ (by rfl),by rfl,(CallV.mk0 (cx:=cx_flags_with_under P) (fd:=fd_flags_with_under P) (pn:=["flags","kind"]) (D.gB 43 (hd.o_79 P) (by rfl)) (by rfl) (FnOk.of (FdOk.b (by rfl)) (by rfl) (by rfl) (dt rfl) (dt rfl) (by rfl) (by rfl)) (by rfl) (noFld (by rfl)) (D.cr (by rfl)) (fun s vs _ hl=>bt2 hl fun _ _=>BindsTo.of_eq (by rfl)) (SemB.toW (d_flags_with_under H W)))⟩
theorem a_pen_sub_changed {G:Top0} {P:Params} (D:Gd G P) (H:Gl G (KH P)) (W:Wr G (KH P)) (f_flags_with_under:FnV G 1 "flags_with_under" 2 F_flags_with_under) (f_pen_colour_of:FnV G 2 "pen_colour_of" 2 F_pen_colour_of) (f_pen_with:FnV G 1 "pen_with" 3 F_pen_with):FnV G 3 "pen_sub_changed" 2 F_pen_sub_changed:=
  ⟨166,hd.o_208 P,fd_pen_sub_changed P,D.mg _ _ (by rfl),D.gB _ _ (by rfl),by rfl,(CallV.mk0 (cx:=cx_pen_sub_changed P) (fd:=fd_pen_sub_changed P) (pn:=["pen","param"]) (D.gB 166 (hd.o_208 P) (by rfl)) (by rfl) (FnOk.of (FdOk.b (by rfl)) (by rfl) (by rfl) (dt rfl) (dt rfl) (by rfl) (by rfl)) (by rfl) (noFld (by rfl)) (D.cr (by rfl)) (fun s vs _ hl=>bt2 hl fun _ _=>BindsTo.of_eq (by rfl)) (SemB.toW (d_pen_sub_changed H W f_flags_with_under f_pen_colour_of f_pen_with)))⟩
theorem a_pen_told_apart {G:Top0} {P:Params} (D:Gd G P) (H:Gl G (KH P)) (W:Wr G (KH P)) (f_pen_colour_of:FnV G 2 "pen_colour_of" 2 F_pen_colour_of):FnV G 3 "pen_told_apart" 2 F_pen_told_apart:=
  ⟨171,hd.o_213 P,fd_pen_told_apart P,D.mg _ _ (by rfl),D.gB _ _ (by rfl),by rfl,(CallV.mk0 (cx:=cx_pen_told_apart P) (fd:=fd_pen_told_apart P) (pn:=["params","at"]) (D.gB 171 (hd.o_213 P) (by rfl)) (by rfl) (FnOk.of (FdOk.b (by rfl)) (by rfl) (by rfl) (dt rfl) (dt rfl) (by rfl) (by rfl)) (by rfl) (noFld (by rfl)) (D.cr (by rfl)) (fun s vs _ hl=>bt2 hl fun _ _=>BindsTo.of_eq (by rfl)) (SemB.toW (d_pen_told_apart H W f_pen_colour_of)))⟩
theorem a_pen_bits {G:Top0} {P:Params} (D:Gd G P) (H:Gl G (KH P)) (W:Wr G (KH P)):FnV G 1 "pen_bits" 0 F_pen_bits:=
  ⟨147,hd.o_189 P,fd_pen_bits P,D.mg _ _ (by rfl),D.gB _ _ (by rfl),by rfl,(CallV.mk0 (cx:=cx_pen_bits P) (fd:=fd_pen_bits P) (pn:=[]) (D.gB 147 (hd.o_189 P) (by rfl)) (by rfl) (FnOk.of (FdOk.b (by rfl)) (by rfl) (by rfl) (dt rfl) (dt rfl) (by rfl) (by rfl)) (by rfl) (noFld (by rfl)) (D.cr (by rfl)) (fun s vs _ hl=>bt0 hl <| BindsTo.of_eq (by rfl)) (SemB.toW (d_pen_bits H W)))⟩
theorem a_pen_plain_changed {G:Top0} {P:Params} (D:Gd G P) (H:Gl G (KH P)) (W:Wr G (KH P)) (f_flags_with_under:FnV G 1 "flags_with_under" 2 F_flags_with_under) (f_pen_bits:FnV G 1 "pen_bits" 0 F_pen_bits) (f_pen_with:FnV G 1 "pen_with" 3 F_pen_with):FnV G 2 "pen_plain_changed" 2 F_pen_plain_changed:=
  ⟨154,hd.o_196 P,fd_pen_plain_changed P,D.mg _ _ (by rfl),D.gB _ _ (by rfl),by rfl,(CallV.mk0 (cx:=cx_pen_plain_changed P) (fd:=fd_pen_plain_changed P) (pn:=["pen","number"]) (D.gB 154 (hd.o_196 P) (by rfl)) (by rfl) (FnOk.of (FdOk.b (by rfl)) (by rfl) (by rfl) (dt rfl) (dt rfl) (by rfl) (by rfl)) (by rfl) (noFld (by rfl)) (D.cr (by rfl)) (fun s vs _ hl=>bt2 hl fun _ _=>BindsTo.of_eq (by rfl)) (SemB.toW (d_pen_plain_changed H W f_flags_with_under f_pen_bits f_pen_with)))⟩
theorem a_apply_sgr {G:Top0} {P:Params} (D:Gd G P) (H:Gl G (KH P)) (W:Wr G (KH P)) (f_pen_plain_changed:FnV G 2 "pen_plain_changed" 2 F_pen_plain_changed) (f_pen_sub_changed:FnV G 3 "pen_sub_changed" 2 F_pen_sub_changed) (f_pen_told_apart:FnV G 3 "pen_told_apart" 2 F_pen_told_apart) (f_pen_with:FnV G 1 "pen_with" 3 F_pen_with):FnV G 4 "apply_sgr" 2 F_apply_sgr:=
  ⟨178,hd.o_220 P,fd_apply_sgr P,D.mg _ _ (by rfl),D.gB _ _ (by rfl),by rfl,(CallV.mk0 (cx:=cx_apply_sgr P) (fd:=fd_apply_sgr P) (pn:=["pen","params"]) (D.gB 178 (hd.o_220 P) (by rfl)) (by rfl) (FnOk.of (FdOk.b (by rfl)) (by rfl) (by rfl) (dt rfl) (dt rfl) (by rfl) (by rfl)) (by rfl) (noFld (by rfl)) (D.cr (by rfl)) (fun s vs _ hl=>bt2 hl fun _ _=>BindsTo.of_eq (by rfl)) (SemB.toW (d_apply_sgr H W f_pen_plain_changed f_pen_sub_changed f_pen_told_apart f_pen_with)))⟩
theorem a_sgr_bit_params {G:Top0} {P:Params} (D:Gd G P) (H:Gl G (KH P)) (W:Wr G (KH P)) (f_pen_bits:FnV G 1 "pen_bits" 0 F_pen_bits):FnV G 2 "sgr_bit_params" 2 F_sgr_bit_params:=
  ⟨192,hd.o_236 P,fd_sgr_bit_params P,D.mg _ _ (by rfl),D.gB _ _ (by rfl),by rfl,(CallV.mk0 (cx:=cx_sgr_bit_params P) (fd:=fd_sgr_bit_params P) (pn:=["old","new"]) (D.gB 192 (hd.o_236 P) (by rfl)) (by rfl) (FnOk.of (FdOk.b (by rfl)) (by rfl) (by rfl) (dt rfl) (dt rfl) (by rfl) (by rfl)) (by rfl) (noFld (by rfl)) (D.cr (by rfl)) (fun s vs _ hl=>bt2 hl fun _ _=>BindsTo.of_eq (by rfl)) (SemB.toW (d_sgr_bit_params H W f_pen_bits)))⟩
theorem a_sgr_under_params {G:Top0} {P:Params} (D:Gd G P) (H:Gl G (KH P)) (W:Wr G (KH P)):FnV G 1 "sgr_under_params" 2 F_sgr_under_params:=
  ⟨199,hd.o_243 P,fd_sgr_under_params P,D.mg _ _ (by rfl),D.gB _ _ (by rfl),by rfl,(CallV.mk0 (cx:=cx_sgr_under_params P) (fd:=fd_sgr_under_params P) (pn:=["old","new"]) (D.gB 199 (hd.o_243 P) (by rfl)) (by rfl) (FnOk.of (FdOk.b (by rfl)) (by rfl) (by rfl) (dt rfl) (dt rfl) (by rfl) (by rfl)) (by rfl) (noFld (by rfl)) (D.cr (by rfl)) (fun s vs _ hl=>bt2 hl fun _ _=>BindsTo.of_eq (by rfl)) (SemB.toW (d_sgr_under_params H W)))⟩
theorem a_under_of {G:Top0} {P:Params} (D:Gd G P) (H:Gl G (KH P)) (W:Wr G (KH P)):FnV G 1 "under_of" 1 F_under_of:=
  ⟨36,hd.o_72 P,fd_under_of P,D.mg _ _ (by rfl),D.gB _ _ (by rfl),by rfl,(CallV.mk0 (cx:=cx_under_of P) (fd:=fd_under_of P) (pn:=["flags"]) (D.gB 36 (hd.o_72 P) (by rfl)) (by rfl) (FnOk.of (FdOk.b (by rfl)) (by rfl) (by rfl) (dt rfl) (dt rfl) (by rfl) (by rfl)) (by rfl) (noFld (by rfl)) (D.cr (by rfl)) (fun s vs _ hl=>bt1 hl fun _=>BindsTo.of_eq (by rfl)) (SemB.toW (d_under_of H W)))⟩
theorem a_is_direct {G:Top0} {P:Params} (D:Gd G P) (H:Gl G (KH P)) (W:Wr G (KH P)):FnV G 1 "is_direct" 1 F_is_direct:=
  ⟨50,hd.o_86 P,fd_is_direct P,D.mg _ _ (by rfl),D.gB _ _ (by rfl),by rfl,(CallV.mk0 (cx:=cx_is_direct P) (fd:=fd_is_direct P) (pn:=["colour"]) (D.gB 50 (hd.o_86 P) (by rfl)) (by rfl) (FnOk.of (FdOk.b (by rfl)) (by rfl) (by rfl) (dt rfl) (dt rfl) (by rfl) (by rfl)) (by rfl) (noFld (by rfl)) (D.cr (by rfl)) (fun s vs _ hl=>bt1 hl fun _=>BindsTo.of_eq (by rfl)) (SemB.toW (d_is_direct H W)))⟩
theorem a_rgb_of {G:Top0} {P:Params} (D:Gd G P) (H:Gl G (KH P)) (W:Wr G (KH P)):FnV G 1 "rgb_of" 1 F_rgb_of:=
  ⟨57,hd.o_93 P,fd_rgb_of P,D.mg _ _ (by rfl),D.gB _ _ (by rfl),by rfl,(CallV.mk0 (cx:=cx_rgb_of P) (fd:=fd_rgb_of P) (pn:=["colour"]) (D.gB 57 (hd.o_93 P) (by rfl)) (by rfl) (FnOk.of (FdOk.b (by rfl)) (by rfl) (by rfl) (dt rfl) (dt rfl) (by rfl) (by rfl)) (by rfl) (noFld (by rfl)) (D.cr (by rfl)) (fun s vs _ hl=>bt1 hl fun _=>BindsTo.of_eq (by rfl)) (SemB.toW (d_rgb_of H W)))⟩
theorem a_sgr_colour_params {G:Top0} {P:Params} (D:Gd G P) (H:Gl G (KH P)) (W:Wr G (KH P)) (f_is_direct:FnV G 1 "is_direct" 1 F_is_direct) (f_rgb_of:FnV G 1 "rgb_of" 1 F_rgb_of):FnV G 2 "sgr_colour_params" 2 F_sgr_colour_params:=
  ⟨185,hd.o_229 P,fd_sgr_colour_params P,D.mg _ _ (by rfl),D.gB _ _ (by rfl),by rfl,(CallV.mk0 (cx:=cx_sgr_colour_params P) (fd:=fd_sgr_colour_params P) (pn:=["place","colour"]) (D.gB 185 (hd.o_229 P) (by rfl)) (by rfl) (FnOk.of (FdOk.b (by rfl)) (by rfl) (by rfl) (dt rfl) (dt rfl) (by rfl) (by rfl)) (by rfl) (noFld (by rfl)) (D.cr (by rfl)) (fun s vs _ hl=>bt2 hl fun _ _=>BindsTo.of_eq (by rfl)) (SemB.toW (d_sgr_colour_params H W f_is_direct f_rgb_of)))⟩
theorem a_sgr_changes {G:Top0} {P:Params} (D:Gd G P) (H:Gl G (KH P)) (W:Wr G (KH P)) (f_sgr_bit_params:FnV G 2 "sgr_bit_params" 2 F_sgr_bit_params) (f_sgr_colour_params:FnV G 2 "sgr_colour_params" 2 F_sgr_colour_params) (f_sgr_under_params:FnV G 1 "sgr_under_params" 2 F_sgr_under_params) (f_under_of:FnV G 1 "under_of" 1 F_under_of):FnV G 3 "sgr_changes" 2 F_sgr_changes:=
  ⟨206,hd.o_250 P,fd_sgr_changes P,D.mg _ _ (by rfl),D.gB _ _ (by rfl),by rfl,(CallV.mk0 (cx:=cx_sgr_changes P) (fd:=fd_sgr_changes P) (pn:=["old","new"]) (D.gB 206 (hd.o_250 P) (by rfl)) (by rfl) (FnOk.of (FdOk.b (by rfl)) (by rfl) (by rfl) (dt rfl) (dt rfl) (by rfl) (by rfl)) (by rfl) (noFld (by rfl)) (D.cr (by rfl)) (fun s vs _ hl=>bt2 hl fun _ _=>BindsTo.of_eq (by rfl)) (SemB.toW (d_sgr_changes H W f_sgr_bit_params f_sgr_colour_params f_sgr_under_params f_under_of)))⟩
theorem a_pen_told {G:Top0} {P:Params} (D:Gd G P) (H:Gl G (KH P)) (W:Wr G (KH P)) (f_is_direct:FnV G 1 "is_direct" 1 F_is_direct) (f_nearest_of_256:FnV G 1 "nearest_of_256" 1 F_nearest_of_256):FnV G 2 "pen_told" 2 F_pen_told:=
  ⟨213,hd.o_257 P,fd_pen_told P,D.mg _ _ (by rfl),D.gB _ _ (by rfl),by rfl,(CallV.mk0 (cx:=cx_pen_told P) (fd:=fd_pen_told P) (pn:=["pen","can_direct"]) (D.gB 213 (hd.o_257 P) (by rfl)) (by rfl) (FnOk.of (FdOk.b (by rfl)) (by rfl) (by rfl) (dt rfl) (dt rfl) (by rfl) (by rfl)) (by rfl) (noFld (by rfl)) (D.cr (by rfl)) (fun s vs _ hl=>bt2 hl fun _ _=>BindsTo.of_eq (by rfl)) (SemB.toW (d_pen_told H W f_is_direct f_nearest_of_256)))⟩
theorem a_decimal_octets {G:Top0} {P:Params} (D:Gd G P) (H:Gl G (KH P)) (W:Wr G (KH P)):FnV G 1 "decimal_octets" 1 F_decimal_octets:=
  ⟨22,hd.o_58 P,fd_decimal_octets P,D.mg _ _ (by rfl),D.gB _ _ (by rfl),by rfl,(CallV.mk0 (cx:=cx_decimal_octets P) (fd:=fd_decimal_octets P) (pn:=["number"]) (D.gB 22 (hd.o_58 P) (by rfl)) (by rfl) (FnOk.of (FdOk.b (by rfl)) (by rfl) (by rfl) (dt rfl) (dt rfl) (by rfl) (by rfl)) (by rfl) (noFld (by rfl)) (D.cr (by rfl)) (fun s vs _ hl=>bt1 hl fun _=>BindsTo.of_eq (by rfl)) (SemB.toW (d_decimal_octets H W)))⟩
theorem a_part_octets {G:Top0} {P:Params} (D:Gd G P) (H:Gl G (KH P)) (W:Wr G (KH P)) (f_decimal_octets:FnV G 1 "decimal_octets" 1 F_decimal_octets):FnV G 2 "part_octets" 1 F_part_octets:=
  ⟨134,hd.o_176 P,fd_part_octets P,D.mg _ _ (by rfl),D.gB _ _ (by rfl),by rfl,(CallV.mk0 (cx:=cx_part_octets P) (fd:=fd_part_octets P) (pn:=["value"]) (D.gB 134 (hd.o_176 P) (by rfl)) (by rfl) (FnOk.of (FdOk.b (by rfl)) (by rfl) (by rfl) (dt rfl) (dt rfl) (by rfl) (by rfl)) (by rfl) (noFld (by rfl)) (D.cr (by rfl)) (fun s vs _ hl=>bt1 hl fun _=>BindsTo.of_eq (by rfl)) (SemB.toW (d_part_octets H W f_decimal_octets)))⟩
theorem a_params_octets {G:Top0} {P:Params} (D:Gd G P) (H:Gl G (KH P)) (W:Wr G (KH P)) (f_part_octets:FnV G 2 "part_octets" 1 F_part_octets):FnV G 3 "params_octets" 1 F_params_octets:=
  ⟨139,hd.o_181 P,fd_params_octets P,D.mg _ _ (by rfl),D.gB _ _ (by rfl),by rfl,(CallV.mk0 (cx:=cx_params_octets P) (fd:=fd_params_octets P) (pn:=["params"]) (D.gB 139 (hd.o_181 P) (by rfl)) (by rfl) (FnOk.of (FdOk.b (by rfl)) (by rfl) (by rfl) (dt rfl) (dt rfl) (by rfl) (by rfl)) (by rfl) (noFld (by rfl)) (D.cr (by rfl)) (fun s vs _ hl=>bt1 hl fun _=>BindsTo.of_eq (by rfl)) (SemB.toW (d_params_octets H W f_part_octets)))⟩
theorem a_sgr_params {G:Top0} {P:Params} (D:Gd G P) (H:Gl G (KH P)) (W:Wr G (KH P)) (f_params_octets:FnV G 3 "params_octets" 1 F_params_octets) (f_pen_told:FnV G 2 "pen_told" 2 F_pen_told) (f_sgr_changes:FnV G 3 "sgr_changes" 2 F_sgr_changes):FnV G 4 "sgr_params" 3 F_sgr_params:=
  ⟨221,hd.o_265 P,fd_sgr_params P,D.mg _ _ (by rfl),D.gB _ _ (by rfl),by rfl,(CallV.mk0 (cx:=cx_sgr_params P) (fd:=fd_sgr_params P) (pn:=["old","new","can_direct"]) (D.gB 221 (hd.o_265 P) (by rfl)) (by rfl) (FnOk.of (FdOk.b (by rfl)) (by rfl) (by rfl) (dt rfl) (dt rfl) (by rfl) (by rfl)) (by rfl) (noFld (by rfl)) (D.cr (by rfl)) (fun s vs x hl=>bt3 hl fun _ _ _=>BindsTo.of_defaults (T:=214) (o:=TupO (dflV P 214) 0) (items:=(dflV P 214).toArray) (n:=0) (by rfl) (D.X _ x _ _ (by rfl)) rfl rfl (by rfl)) (SemB.toW (d_sgr_params H W f_params_octets f_pen_told f_sgr_changes)))⟩
theorem a_sgr_octets {G:Top0} {P:Params} (D:Gd G P) (H:Gl G (KH P)) (W:Wr G (KH P)) (f_params_octets:FnV G 3 "params_octets" 1 F_params_octets) (f_sgr_params:FnV G 4 "sgr_params" 3 F_sgr_params):FnV G 5 "sgr_octets" 2 F_sgr_octets:=
  ⟨229,hd.o_273 P,fd_sgr_octets P,D.mg _ _ (by rfl),D.gB _ _ (by rfl),by rfl,(CallV.mk (cx:=cx_sgr_octets P) (fd:=fd_sgr_octets P) (pn:=["old","new","can_direct"]) (k:=2) (D.gB 229 (hd.o_273 P) (by rfl)) (by rfl) (FnOk.of (FdOk.b (by rfl)) (by rfl) (by rfl) (dt rfl) (dt rfl) (by rfl) (by rfl)) (by rfl) (noFld (by rfl)) (D.cr (by rfl)) (dflRels_sgr_octets G P) (by rfl) (fun s vs x hl=>bd2 hl fun _ _=>BindsTo.of_defaults (T:=222) (o:=TupO (dflV P 222) 0) (items:=(dflV P 222).toArray) (n:=0) (by rfl) (D.X _ x _ _ (by rfl)) rfl rfl (by rfl)) (SemB.toW (d_sgr_octets H W f_params_octets f_sgr_params)))⟩
theorem a_law_inside {G:Top0} {P:Params} (D:Gd G P) (H:Gl G (KH P)) (W:Wr G (KH P)):FnV G 1 "_law_inside" 1 F_law_inside:=
  ⟨323,hd.o_369 P,fd_law_inside P,D.mg _ _ (by rfl),D.gB _ _ (by rfl),by rfl,(CallV.mk0 (cx:=cx_law_inside P) (fd:=fd_law_inside P) (pn:=["octets"]) (D.gB 323 (hd.o_369 P) (by rfl)) (by rfl) (FnOk.of (FdOk.b (by rfl)) (by rfl) (by rfl) (dt rfl) (dt rfl) (by rfl) (by rfl)) (by rfl) (noFld (by rfl)) (D.cr (by rfl)) (fun s vs _ hl=>bt1 hl fun _=>BindsTo.of_eq (by rfl)) (SemB.toW (d_law_inside H W)))⟩
theorem a_law_leads_right {G:Top0} {P:Params} (D:Gd G P) (H:Gl G (KH P)) (W:Wr G (KH P)) (f_law_inside:FnV G 1 "_law_inside" 1 F_law_inside) (f_law_seen:FnV G 3 "_law_seen" 2 F_law_seen) (f_sgr_octets:FnV G 5 "sgr_octets" 2 F_sgr_octets):FnV G 6 "_law_leads_right" 2 F_law_leads_right:=
  ⟨330,hd.o_376 P,fd_law_leads_right P,D.mg _ _ (by rfl),D.gB _ _ (by rfl),by rfl,(CallV.mk0 (cx:=cx_law_leads_right P) (fd:=fd_law_leads_right P) (pn:=["old","new"]) (D.gB 330 (hd.o_376 P) (by rfl)) (by rfl) (FnOk.of (FdOk.b (by rfl)) (by rfl) (by rfl) (dt rfl) (dt rfl) (by rfl) (by rfl)) (by rfl) (noFld (by rfl)) (D.cr (by rfl)) (fun s vs _ hl=>bt2 hl fun _ _=>BindsTo.of_eq (by rfl)) (SemB.toW (d_law_leads_right H W f_law_inside f_law_seen f_sgr_octets)))⟩
theorem a_law {G:Top0} {P:Params} (D:Gd G P) (H:Gl G (KH P)) (W:Wr G (KH P)) (f_law_deck:FnD G 1 "_law_deck" 1 F_law_deck) (f_law_draw:FnO G 1 "_law_draw" false deckFn 1 F_law_draw) (f_law_leads_right:FnV G 6 "_law_leads_right" 2 F_law_leads_right) (f_law_look:FnO G 2 "_law_look" false deckFn 0 F_law_look) (f_law_seen:FnV G 3 "_law_seen" 2 F_law_seen) (f_apply_sgr:FnV G 4 "apply_sgr" 2 F_apply_sgr) (f_params_octets:FnV G 3 "params_octets" 1 F_params_octets) (f_read_params:FnV G 4 "read_params" 1 F_read_params):CallV G 7 335 1 F_law:=
  (CallV.mk0 (cx:=cx0_law P) (fd:=fd_law P) (pn:=["script"]) (D.gB 335 (hd.o_383 P) (by rfl)) (by rfl) (FnOk.of (FdOk.b (by rfl)) (by rfl) (by rfl) (dt rfl) (dt rfl) (by rfl) (by rfl)) (by rfl) (noFld (by rfl)) (D.cr (by rfl)) (fun s vs _ hl=>bt1 hl fun _=>BindsTo.of_eq (by rfl)) (d_law H W f_law_deck f_law_draw f_law_leads_right f_law_look f_law_seen f_apply_sgr f_params_octets f_read_params))
theorem law_call {G:Top0} {P:Params} (D:Gd G P) (H:Gl G (KH P)) (W:Wr G (KH P)):CallV G 7 335 1 F_law:=by
  have f_nearest_of_256:FnV G 1 "nearest_of_256" 1 F_nearest_of_256:=⟨269,hd.o_315 P,fdOf (hd.o_315 P),D.mg _ _ (by rfl),D.gB _ _ (by rfl),by rfl,by intro A g s vs ds d R _ _ _ _ _ e;cases e⟩
  have f_law_deck:=a_law_deck D H W
  have f_law_draw:=a_law_draw D H W
  have f_clear:=a_clear D H W
  have f___init__:=a_init__ D H W f_clear
  have f_close_part:=a_close_part D H W
  have f_close_parameter:=a_close_parameter D H W
  have f_put:=a_put D H W f_close_parameter f_close_part
  have f_params:=a_params D H W
  have f_read_params:=a_read_params D H W f___init__ f_params f_put
  have f_law_value:=a_law_value D H W
  have f_law_parted:=a_law_parted D H W f_law_value
  have f_law_hue:=a_law_hue D H W
  have f_law_turns:=a_law_turns D H W
  have f_law_seen:=a_law_seen D H W f_law_hue f_law_parted f_law_turns
  have f_law_look:=a_law_look D H W f_law_draw
  have f_direct_colour:=a_direct_colour D H W
  have f_pen_colour_of:=a_pen_colour_of D H W f_direct_colour
  have f_pen_with:=a_pen_with D H W
  have f_flags_with_under:=a_flags_with_under D H W
  have f_pen_sub_changed:=a_pen_sub_changed D H W f_flags_with_under f_pen_colour_of f_pen_with
  have f_pen_told_apart:=a_pen_told_apart D H W f_pen_colour_of
  have f_pen_bits:=a_pen_bits D H W
  have f_pen_plain_changed:=a_pen_plain_changed D H W f_flags_with_under f_pen_bits f_pen_with
  have f_apply_sgr:=a_apply_sgr D H W f_pen_plain_changed f_pen_sub_changed f_pen_told_apart f_pen_with
  have f_sgr_bit_params:=a_sgr_bit_params D H W f_pen_bits
  have f_sgr_under_params:=a_sgr_under_params D H W
  have f_under_of:=a_under_of D H W
  have f_is_direct:=a_is_direct D H W
  have f_rgb_of:=a_rgb_of D H W
  have f_sgr_colour_params:=a_sgr_colour_params D H W f_is_direct f_rgb_of
  have f_sgr_changes:=a_sgr_changes D H W f_sgr_bit_params f_sgr_colour_params f_sgr_under_params f_under_of
  have f_pen_told:=a_pen_told D H W f_is_direct f_nearest_of_256
  have f_decimal_octets:=a_decimal_octets D H W
  have f_part_octets:=a_part_octets D H W f_decimal_octets
  have f_params_octets:=a_params_octets D H W f_part_octets
  have f_sgr_params:=a_sgr_params D H W f_params_octets f_pen_told f_sgr_changes
  have f_sgr_octets:=a_sgr_octets D H W f_params_octets f_sgr_params
  have f_law_inside:=a_law_inside D H W
  have f_law_leads_right:=a_law_leads_right D H W f_law_inside f_law_seen f_sgr_octets
  exact @a_law G P D H W f_law_deck f_law_draw f_law_leads_right f_law_look f_law_seen f_apply_sgr f_params_octets f_read_params
end Mine
end
section
open PySem PySem.W PyProof.Rows
namespace Mine
theorem ints_rels {prog:Program} {w:World} {g:Gh}:∀ {vs:List Value} {xs:List Int},IntsAre vs xs→Rels prog w g vs (xs.map .int)
  | _,_,.nil=> .nil
  | _,_,.cons _ _ h=> .cons (.int _ _) (ints_rels h)
set_option maxHeartbeats 8000000 in
theorem holds_of (hL:∀ zs:List Int,zs.length≤63→F_law [.lst (zs.map .int)]=some (.bool true)):PySem.Challenge.rw_og0262_01.Holds:=hd (by
  intro w s₀ s₁ mg mb G Y fa o pm cd doc dV kV ho hd hcd hD hmg hg args vals as hpre hlay hrd hwl hlo
  have KX:=kIn_of Y
  have hmg':mg "law"=some (.ref fa):=hmg
  have e335:mg "law"=some (.ref 335):=mg_of KX G.T.g (by kernel_rfl)
  have hfa:fa=335:=by rw [hmg'] at e335;cases e335;rfl
  clear ho hd hcd hD hmg hmg' e335
  subst hfa
  wrow_args hpre hlay hrd hwl hlo
  rename_i xs _ _ _ _ _ _ _ l vs _ hLs _ hw _ hI _ hlen _
  have hsys:sysModules<s₁.heap.objs.size:=Nat.lt_trans (by decide:sysModules<2) (Heap.lt_size (KX 2 _ rfl))
  let Gt:Top0:=⟨PySem.Challenge.rw_og0262_01.row.prog,w,115,s₁.heap.get?,mg,mb,fun h k=>G.T.g.keeps k,fun h k=>G.T.b.keeps k,fun h k=>G.T.nolimit.keeps k,G.T.builtins,fun h k=>Nat.lt_trans (by decide:sysModules<2) (Heap.lt_size (k _ _ (KX 2 _ rfl)))⟩
  have D:Gd Gt w.params:=⟨fun h k=>KX.keeps k,fun a o e=>KX a o e,fun x r e=>mg_of KX G.T.g e,rfl⟩
  have hC:CallV Gt 7 335 1 F_law:=law_call D (gl_of D) (wr_of D)
  have hlst:∃ vs',s₁.heap.get? l=some (LstO vs' 0)∧IntsAre vs' xs:=by
    have hw':Well w.params s₁.heap (.ref l) (.list (ofPys (xs.map PyData.int))):=hw
    cases hw' with
    | list h1 h2=>
      rename_i us
      obtain ⟨o',e1,_,n,e2⟩:=hLs
      rw [h1] at e1
      cases e1
      injection e2 with e3 e4
      have e5:us=vs:=by simpa using congrArg Array.toList e3
      subst e5
      exact ⟨us,h1,hI⟩
  obtain ⟨vs',hl,hI'⟩:=hlst
  have hA:AOk 7 callerA:=⟨rfl,by decide,by decide⟩
  refine wpAny_call (hC (g:=s₁.heap.get?) (ds:=[.lst (xs.map .int)]) (d:= .bool true) hA (.refl _) (fun _ _ e=>e) (.cons (.lst hl (ints_rels hI')) .nil) rfl (hL xs (by omega)) fun v g' s' X hgens hos r=> ?_)
  cases r
  refine GoodW.toG ⟨.inl ⟨.bool true,.bool true,[],rfl,?_,.bool _,?_,?_⟩,fun b o e=>X.hk b o e,hos,by rw [hgens];exact hg⟩
  · intro cls;rfl
  · wrow_post
  · intro _;exact ⟨.nil,fun _ h=>nomatch h⟩)
end Mine
end
end
theorem PySem.Challenge.cw_og0262_01_holds : PySem.Challenge.rw_og0262_01.Holds :=
  Mine.holds_of Mine.P.law_true
