/- The interpreter of the model: its data, its run, what its reading operations say of the model. Nothing is asked of the program. -/
import GoSem.Step
import Derived.AtR
import Derived.Laws.Entries
import Derived.Laws.Slices
import Derived.Laws.StructEq
import Derived.Lib.Bytealg
import Derived.ChangeKeysEq
import Derived.Laws.Tables
set_option linter.all false
namespace Go.AJ
inductive K where
 |h
 |o (k:K)
 |i (k:K)
 deriving Inhabited,DecidableEq
def K.ofN:Nat→Nat→K
 |0,_=> .h
 |f+1,n=>match n with
  |0=> .h
  |m+1=>match m%2 with
   |0=> .o (K.ofN f (m/2))
   |_+1=> .i (K.ofN f (m/2))
def K.of (n:Nat):K:=K.ofN n n
def K.succ:K→K
 |.h=> .o .h
 |.o k=> .i k
 |.i k=> .o k.succ
def K.beq:K→K→Bool
 |.h,b=>(match b with|.h=>true|_=>false)
 |.o a,b=>(match b with|.o b=>K.beq a b|_=>false)
 |.i a,b=>(match b with|.i b=>K.beq a b|_=>false)
inductive T (α:Type) where
 |l
 |n (a:T α) (v:α) (b:T α)
 deriving Inhabited
noncomputable def T.get {α:Type} (d:α) (k:K):T α→α:=
 K.rec (motive:=fun _=>T α→α)
  (fun t=>T.rec (motive:=fun _=>α) d (fun _ v _ _ _=>v) t)
  (fun _ ih t=>T.rec (motive:=fun _=>α) d (fun a _ _ _ _=>ih a) t)
  (fun _ ih t=>T.rec (motive:=fun _=>α) d (fun _ _ b _ _=>ih b) t) k
noncomputable def T.set {α:Type} (d x:α) (k:K):T α→(T α→Bool)→Bool:=
 K.rec (motive:=fun _=>T α→(T α→Bool)→Bool)
  (fun t c=>T.rec (motive:=fun _=>Bool) (c (.n .l x .l)) (fun a _ b _ _=>c (.n a x b)) t)
  (fun _ ih t c=>T.rec (motive:=fun _=>Bool) (ih .l fun a=>c (.n a d .l)) (fun a v b _ _=>ih a fun a'=>c (.n a' v b)) t)
  (fun _ ih t c=>T.rec (motive:=fun _=>Bool) (ih .l fun b=>c (.n .l d b)) (fun a v b _ _=>ih b fun b'=>c (.n a v b')) t) k
inductive V where
 |int (k:IntKind) (n:Int)
 |bool (b:Bool)
 |str (l:List Nat)
 |nilp
 |ptr (b:K) (off:Nat)
 |nils
 |sl (b:K) (off len cap op:Nat)
 |nilm
 |map (b:K)
 |fn (f:Nat) (first captured:List V)
 |yld (l:K)
 |nilf
 |ifc (t:Nat) (v:V)
 |nili
 |agg (l:List V)
 |tup (l:List V)
 |rp (l:List V) (off:Nat)
 |rsl (l:List V) (off len cap:Nat)
 |esl
 deriving Inhabited
abbrev und:V:=.tup []
inductive X where
 |t (k:K)
 |c (v:V)
 deriving Inhabited
inductive IOp where
 |add|sub|mul|quo|rem|and|or|xor|eql|neq|lss|leq|gtr|geq|shl|shr
 deriving Inhabited
inductive SOp where
 |add|eql|neq|lss|leq|gtr|geq
 deriving Inhabited
inductive CK where
 |int|str|bool
 deriving Inhabited
inductive EK where
 |bool|ptr|sl|map|fn|ifc
 |cells (l:List CK)
 deriving Inhabited
inductive LK where
 |str|sl|map
 deriving Inhabited
inductive AOp where
 |mv (x:X)
 |mvh (x:X)
 |pick (c a b:X)
 |load1 (x:X)
 |loadN (x:X) (n:Nat)
 |addOff (x:X) (n:Nat)
 |ibin (op:IOp) (x y:X)
 |sbin (op:SOp) (x y:X)
 |eqv (neg:Bool) (q:EK) (x y:X)
 |box (x:X)
 |alloc (z:List V)
 |mk (z:List V) (parts:List (Nat×Nat×X))
 |mkSl (z:List V) (parts:List (Nat×Nat×X)) (len:Nat)
 |not (x:X)
 |neg (x:X)
 |idx (x i:X) (sz:Nat)
 |idxA (x i:X) (sz len:Nat)
 |store (a x:X) (n:Nat)
 |nilchk (x:X)
 |ext (x:X) (i:Nat)
 |mkf (f:Nat) (first captured:List X)
 |mapset (q:CK) (m k x:X)
 |mapget (q:CK) (m k:X) (z:V) (ok:Bool)
 |slice (x:X) (lo hi mx:Option X) (sz:Nat)
 |sliceS (x:X) (lo hi:Option X)
 |sliceA (x:X) (lo hi mx:Option X) (sz n:Nat)
 |idxS (x i:X)
 |idxG (x i:X) (sz n:Nat) (agg:Bool)
 |mkmap
 |conv (k:IntKind) (x:X)
 |toBytes (x:X) (u:Bool)
 |ofBytes (x:X)
 |fld (x:X) (off n:Nat) (agg:Bool)
 |mkslice (l c:X) (z:List V) (bytes:Nat)
 |tas (x:X) (t:Nat) (z:V) (ok:Bool)
 |mkif (t:Nat) (x:X)
 |panic (x:X)
 |len (q:LK) (x:X)
 |cap (x:X)
 |app (s x:X) (sz bytes:Nat) (u:Option (List V))
 |appz (s x:X) (sz bytes:Nat) (z:List V) (u:Option (List V))
 |copy (d s:X) (sz:Nat)
 |clr (x:X) (z:List V)
 |clrm (x:X)
 |mxn (max:Bool) (x:X) (l:List X)
 |recover
 |call (f:Nat) (args:List X)
 |callv (f:X) (args:List X)
 |cmpStr (x y:X)
 |defer (f:X) (args:List X)
 |rng (s:Bool) (x:X)
 |nxt (x:X)
 |nxtS (x:X)
 |ent (x:X)
 |bad
 deriving Inhabited
structure AO where
 dst:Option K
 guard:Option (K×Bool)
 op:AOp
 deriving Inhabited
structure Fe where
 ops:List AO
 chk:List AO
 heavy:Option AO
 deriving Inhabited
structure wQ where
 ops:List AO
 chk:List AO
 a1:X
 x1:X
 n1:Nat
 a2:X
 x2:X
 n2:Nat
 c1:List AO
 e1:List AO
 c2:List AO
 e2:List AO
 deriving Inhabited
inductive Aa where
 |skip
 |reg (ops:List AO)
 |draw (l:List Fe) (dirty:List K)
 |draw2 (l:List Fe) (p:wQ) (dirty:List K)
 |seq (a b:Aa)
 |cond (c:X) (a b:Aa)
 |block (id:Nat) (c:Aa)
 |loop (c:Aa)
 |range (f:X) (params:List K) (assign body:Aa)
 |exit (id:Nat)
 |ret
 |bad
 deriving Inhabited
inductive RV where
 |t (k:K)
 |cell1 (k:K)
 |cellN (k:K) (n:Nat)
 deriving Inhabited
structure AFn where
 body:Aa
 res:List RV
 deriving Inhabited
inductive D where
 |coll (b:K)
 |call (f:Nat) (args:List V)
 deriving Inhabited
structure PE where
 v:V
 rec_:Bool
 deriving Inhabited
inductive Md where
 |ret
 |pan (ch:List PE)
 deriving Inhabited
inductive LSt where
 |ready|busy|done|exhausted
 deriving Inhabited
inductive Jmp where
 |none|ret|exit (id:Nat)
 deriving Inhabited
inductive ME where
 |mk (key val:V) (born:Nat)
 deriving Inhabited
inductive Blk where
 |none
 |cells (l:List V)
 |map (es:List ME) (clock:Nat)
 |loop (st:LSt) (pend:Jmp) (fn:Nat) (t:T V) (params:List K) (assign body:Aa) (dfr:K)
 |dfr (ds:List D)
 |iter (m:Option K) (since:Nat) (seen:List Nat) (last:Nat)
 |iterS (s:List Nat) (pos:Nat)
 deriving Inhabited
inductive Hp where
 |mk (b:T Blk) (nx:K)
 deriving Inhabited
inductive Dc where
 |mk (ds:List D) (cm:Option Md)
 |rnd
 deriving Inhabited
inductive FI where
 |mk (fn:Nat) (round:Option K)
inductive Ex where
 |normal
 |exit (id:Nat)
 |ret
 |panic (ch:List PE) (dirty:List K)
inductive End where
 |ret (v:V)
 |pan (ch:List PE)
inductive Tgt where
 |fn (f:Nat)
 |round (l:K)
noncomputable def ev (t:T V) (x:X):V:=X.rec (motive:=fun _=>V) (fun k=>T.get und k t) (fun v=>v) x
noncomputable def evs (t:T V):List X→List V
 | []=> []
 |x::l=>ev t x::evs t l
noncomputable def evo (t:T V) (x:Option X):Option V:=match x with
 |none=>none
 |some x=>some (ev t x)
def Et:Nat→List V→(List V→Bool)→Bool
 |0,_,c=>c []
 |n+1,l,c=>(match l with
  | []=>false
  |x::l=>Et n l fun r=>c (x::r))
def Fd {α:Type}:Nat→List α→List α
 |0,l=>l
 |n+1,l=>(match l with
  | []=> []
  |_::l=>Fd n l)
def eZ {α:Type}:Nat→List α→List α
 |0,_=> []
 |n+1,l=>(match l with
  | []=> []
  |x::l=>x::eZ n l)
def Hr:List V→List V→(List V→Bool)→Bool
 |c,[],k=>k c
 |c,v::vs,k=>(match c with
  | []=>false
  |_::c=>Hr c vs fun r=>k (v::r))
def AN:Nat→List V→List V→(List V→Bool)→Bool
 |0,c,vs,k=>Hr c vs k
 |n+1,c,vs,k=>(match c with
  | []=>false
  |x::c=>AN n c vs fun r=>k (x::r))
def nth {α:Type}:List α→Nat→(α→Bool)→Bool
 | [],_,_=>false
 |x::l,n,c=>(match n with
  |0=>c x
  |n+1=>nth l n c)
def On {α:Type}:List α→Nat
 | []=>0
 |_::l=>On l+1
def rep:Nat→List V→List V
 |0,_=> []
 |n+1,z=>z++rep n z
def Ba (v:V) (c:List V→Bool):Bool:=match v with
 |.agg l=>c l
 |.tup _=>false
 |v=>c [v]
def Cu (n:Nat) (c:Nat→Bool):Bool:=match n with
 |0=>c 0
 |m+1=>c (m+1)
noncomputable def blk (h:Hp) (b:K):Blk:=match h with
 |.mk t _=>T.get .none b t
noncomputable def cellsOf (h:Hp) (b:K) (c:List V→Bool):Bool:=match blk h b with
 |.cells l=>c l
 |_=>false
noncomputable def DD (h:Hp) (b:K) (x:Blk) (c:Hp→Bool):Bool:=match h with
 |.mk t nx=>T.set .none x b t fun t'=>c (.mk t' nx)
noncomputable def Bw (h:Hp) (x:Blk) (c:K→Hp→Bool):Bool:=match h with
 |.mk t nx=>T.set .none x nx t fun t'=>c nx (.mk t' nx.succ)
abbrev KV:=V→Hp→Bool
noncomputable def BU (v:V) (h:Hp) (c:KV):Bool:=match v with
 |.ptr b off=>cellsOf h b fun l=>nth l off fun x=>c x h
 |.rp l off=>nth l off fun x=>c x h
 |_=>false
noncomputable def CV (v:V) (n:Nat) (h:Hp) (c:KV):Bool:=match v with
 |.ptr b off=>(match n with
  |0=>c (.agg []) h
  |n+1=>cellsOf h b fun l=>Et (n+1) (Fd off l) fun r=>c (.agg r) h)
 |.rp l off=>Et n (Fd off l) fun r=>c (.agg r) h
 |_=>false
def CL (v:V) (n:Nat) (h:Hp) (c:KV):Bool:=match v with
 |.ptr b off=>Cu (off+n) fun o=>c (.ptr b o) h
 |.rp l off=>Cu (off+n) fun o=>c (.rp l o) h
 |_=>false
def IX (x a b:V) (h:Hp) (c:KV):Bool:=match x with
 |.bool t=>(match t with
  |true=>c a h
  |false=>c b h)
 |_=>false
def Qh (n:Int) (c:Int→Bool):Bool:=match n with
 |.ofNat m=>Cu m fun m=>c (.ofNat m)
 |.negSucc m=>Cu m fun m=>c (.negSucc m)
def Am (k:IntKind) (n:Int):Int:=match k with
 |.i64=>(match n with
  |.ofNat m=>(match Nat.ble m 9223372036854775807 with|true=> .ofNat m|false=>IntKind.i64.wrap (.ofNat m))
  |.negSucc m=>(match Nat.ble m 9223372036854775807 with|true=> .negSucc m|false=>IntKind.i64.wrap (.negSucc m)))
 |.u64=>(match n with
  |.ofNat m=> .ofNat (m%18446744073709551616)
  |.negSucc m=>IntKind.u64.wrap (.negSucc m))
 |k=>k.wrap n
def mkI (k:IntKind) (n:Int) (h:Hp) (c:KV):Bool:=Qh (Am k n) fun n=>c (.int k n) h
def Aq (a b:Int):Bool:=match a with
 |.ofNat a=>(match b with|.ofNat b=>Nat.beq a b|.negSucc _=>false)
 |.negSucc a=>(match b with|.ofNat _=>false|.negSucc b=>Nat.beq a b)
def ltI (a b:Int):Bool:=match a with
 |.ofNat a=>(match b with|.ofNat b=>Nat.blt a b|.negSucc _=>false)
 |.negSucc a=>(match b with|.ofNat _=>true|.negSucc b=>Nat.blt b a)
def mkB (b:Bool) (h:Hp) (c:KV):Bool:=match b with
 |true=>c (.bool true) h
 |false=>c (.bool false) h
def BO (a b:IntKind) (c:Bool):Bool:=match a with
 |.i64=>(match b with|.i64=>c|_=>false)
 |.u64=>(match b with|.u64=>c|_=>false)
 |.u8=>(match b with|.u8=>c|_=>false)
 |.i32=>(match b with|.i32=>c|_=>false)
 |.u32=>(match b with|.u32=>c|_=>false)
 |_=>false
def KA (f:Nat→Nat→Nat) (k:IntKind) (a b:Int) (h:Hp) (c:KV):Bool:=match a with
 |.ofNat x=>(match b with
  |.ofNat y=>(match k with
   |.u64=>mkI .u64 (.ofNat (f (x%18446744073709551616) (y%18446744073709551616))) h c
   |.i64=>(match Nat.ble x 9223372036854775807 with
    |true=>(match Nat.ble y 9223372036854775807 with
     |true=>mkI .i64 (.ofNat (f x y)) h c
     |false=>false)
    |false=>false)
   |_=>false)
  |.negSucc _=>false)
 |.negSucc _=>false
def zb (k:IntKind) (a b:Int) (h:Hp) (c:KV):Bool:=match b with
 |.ofNat y=>mkI k (Int.mul a (.ofNat (Nat.pow 2 (min y k.bits)))) h c
 |.negSucc _=>false
def wS (k:IntKind) (a b:Int) (h:Hp) (c:KV):Bool:=match a with
 |.ofNat x=>(match b with
  |.ofNat y=>Cu (Nat.div x (Nat.pow 2 (min y k.bits))) fun n=>c (.int k (.ofNat n)) h
  |.negSucc _=>false)
 |.negSucc _=>false
def C7 (op:IOp) (k k':IntKind) (a b:Int) (h:Hp) (c:KV):Bool:=match op with
 |.add=>BO k k' (mkI k (Int.add a b) h c)
 |.sub=>BO k k' (mkI k (Int.sub a b) h c)
 |.mul=>BO k k' (mkI k (Int.mul a b) h c)
 |.quo=>(match Aq b 0 with|true=>false|false=>BO k k' (mkI k (Int.tdiv a b) h c))
 |.rem=>(match Aq b 0 with|true=>false|false=>BO k k' (Qh (Int.tmod a b) fun n=>c (.int k n) h))
 |.and=>BO k k' (KA Nat.land k a b h c)
 |.or=>BO k k' (KA Nat.lor k a b h c)
 |.xor=>BO k k' (KA Nat.xor k a b h c)
 |.eql=>BO k k' (mkB (Aq a b) h c)
 |.neq=>BO k k' (mkB (!Aq a b) h c)
 |.lss=>BO k k' (mkB (ltI a b) h c)
 |.leq=>BO k k' (mkB (!ltI b a) h c)
 |.gtr=>BO k k' (mkB (ltI b a) h c)
 |.geq=>BO k k' (mkB (!ltI a b) h c)
 |.shl=>zb k a b h c
 |.shr=>wS k a b h c
def AU (op:IOp) (x y:V) (h:Hp) (c:KV):Bool:=match x with
 |.int k a=>(match y with
  |.int k' b=>C7 op k k' a b h c
  |_=>false)
 |_=>false
def CR:List Nat→List Nat→Bool
 | [],y=>(match y with| []=>true|_::_=>false)
 |a::x,y=>(match y with
  | []=>false
  |b::y=>(match Nat.beq a b with|true=>CR x y|false=>false))
def ltL:List Nat→List Nat→Bool
 | [],y=>(match y with| []=>false|_::_=>true)
 |a::x,y=>(match y with
  | []=>false
  |b::y=>(match Nat.blt a b with
   |true=>true
   |false=>(match Nat.beq a b with|true=>ltL x y|false=>false)))
def PZ (op:SOp) (a b:List Nat) (h:Hp) (c:KV):Bool:=match op with
 |.add=>(match Nat.ble (On a+On b) 1000000000 with|true=>c (.str (a++b)) h|false=>false)
 |.eql=>mkB (CR a b) h c
 |.neq=>mkB (!CR a b) h c
 |.lss=>mkB (ltL a b) h c
 |.leq=>mkB (!ltL b a) h c
 |.gtr=>mkB (ltL b a) h c
 |.geq=>mkB (!ltL a b) h c
def Fw (op:SOp) (x y:V) (h:Hp) (c:KV):Bool:=match x with
 |.str a=>(match y with
  |.str b=>PZ op a b h c
  |_=>false)
 |_=>false
def Bk (q:CK) (x y:V) (c:Bool→Bool):Bool:=match q with
 |.int=>(match x with
  |.int k a=>(match y with|.int k' b=>BO k k' (c (Aq a b))|_=>false)
  |_=>false)
 |.str=>(match x with
  |.str a=>(match y with|.str b=>c (CR a b)|_=>false)
  |_=>false)
 |.bool=>(match x with
  |.bool a=>(match y with|.bool b=>(match a with|true=>c b|false=>c (!b))|_=>false)
  |_=>false)
def BM:List CK→List V→List V→(Bool→Bool)→Bool
 | [],x,y,c=>(match x with
  | []=>(match y with| []=>c true|_::_=>false)
  |_::_=>false)
 |q::l,x,y,c=>(match x with
  | []=>false
  |a::x=>(match y with
   | []=>false
   |b::y=>Bk q a b fun e=>(match e with|true=>BM l x y c|false=>c false)))
def eqK (q:EK) (x y:V) (c:Bool→Bool):Bool:=match q with
 |.bool=>Bk .bool x y c
 |.ptr=>(match x with
  |.nilp=>(match y with|.nilp=>c true|.ptr _ _=>c false|.rp _ _=>c false|_=>false)
  |.ptr _ _=>(match y with|.nilp=>c false|_=>false)
  |.rp _ _=>(match y with|.nilp=>c false|_=>false)
  |_=>false)
 |.sl=>(match x with
  |.nils=>(match y with|.nils=>c true|.sl _ _ _ _ _=>c false|.rsl _ _ _ _=>c false|.esl=>c false|_=>false)
  |.sl _ _ _ _ _=>(match y with|.nils=>c false|_=>false)
  |.rsl _ _ _ _=>(match y with|.nils=>c false|_=>false)
  |.esl=>(match y with|.nils=>c false|_=>false)
  |_=>false)
 |.map=>(match x with
  |.nilm=>(match y with|.nilm=>c true|.map _=>c false|_=>false)
  |.map _=>(match y with|.nilm=>c false|_=>false)
  |_=>false)
 |.fn=>(match x with
  |.nilf=>(match y with|.nilf=>c true|.fn _ _ _=>c false|.yld _=>c false|_=>false)
  |.fn _ _ _=>(match y with|.nilf=>c false|_=>false)
  |.yld _=>(match y with|.nilf=>c false|_=>false)
  |_=>false)
 |.ifc=>(match x with
  |.nili=>(match y with|.nili=>c true|.ifc _ _=>c false|_=>false)
  |.ifc _ _=>(match y with|.nili=>c false|_=>false)
  |_=>false)
 |.cells l=>(match x with
  |.agg a=>(match y with
   |.agg b=>BM l a b c
   |_=>false)
  |_=>false)
def oEq (neg:Bool) (q:EK) (x y:V) (h:Hp) (c:KV):Bool:=eqK q x y fun e=>(match neg with|true=>mkB (!e) h c|false=>mkB e h c)
noncomputable def Kq (v:V) (h:Hp) (c:KV):Bool:=Ba v fun l=>Bw h (.cells l) fun b h'=>c (.ptr b 0) h'
def BP {α:Type}:List α→Nat→Bool→Bool
 | [],n,c=>(match n with|0=>c|_+1=>false)
 |_::l,n,c=>(match n with|0=>false|n+1=>BP l n c)
noncomputable def fill (t:T V):List (Nat×Nat×X)→List V→(List V→Bool)→Bool
 | [],z,c=>c z
 |p::l,z,c=>(match p with
  |(off,sx)=>(match sx with
   |(sz,x)=>Ba (ev t x) fun q=>BP q sz (AN off z q fun z'=>fill t l z' c)))
noncomputable def oMk (t:T V) (z:List V) (ps:List (Nat×Nat×X)) (h:Hp) (c:KV):Bool:=fill t ps z fun z'=>c (.agg z') h
noncomputable def Gz (t:T V) (z:List V) (ps:List (Nat×Nat×X)) (len:Nat) (h:Hp) (c:KV):Bool:=
 fill t ps z fun z'=>Bw h (.cells z') fun b h'=>c (.sl b 0 len len 0) h'
def fX (v:V) (h:Hp) (c:KV):Bool:=match v with
 |.bool b=>mkB (!b) h c
 |_=>false
def sZ (v:V) (h:Hp) (c:KV):Bool:=match v with
 |.int k n=>mkI k (Int.sub 0 n) h c
 |_=>false
def Kz (b:K) (off n sz:Nat) (i:Int) (h:Hp) (c:KV):Bool:=match i with
 |.ofNat m=>(match Nat.blt m n with
  |true=>Cu (off+m*sz) fun o=>c (.ptr b o) h
  |false=>false)
 |.negSucc _=>false
def Ii (l:List V) (off n sz:Nat) (i:Int) (h:Hp) (c:KV):Bool:=match i with
 |.ofNat m=>(match Nat.blt m n with
  |true=>Cu (off+m*sz) fun o=>c (.rp l o) h
  |false=>false)
 |.negSucc _=>false
def Jq (x i:V) (sz:Nat) (h:Hp) (c:KV):Bool:=match i with
 |.int _ i=>(match x with
  |.sl b off len _ _=>Kz b off len sz i h c
  |.rsl l off len _=>Ii l off len sz i h c
  |_=>false)
 |_=>false
def IZ (x i:V) (sz n:Nat) (h:Hp) (c:KV):Bool:=match i with
 |.int _ i=>(match x with
  |.ptr b off=>Kz b off n sz i h c
  |.rp l off=>Ii l off n sz i h c
  |_=>false)
 |_=>false
noncomputable def Bj (a x:V) (n:Nat) (h:Hp) (c:Hp→Bool):Bool:=match a with
 |.ptr b off=>(match n with
  |0=>false
  |n+1=>Ba x fun q=>BP q (n+1) (cellsOf h b fun l=>AN off l q fun l'=>DD h b (.cells l') c))
 |_=>false
def DW (v:V) (h:Hp) (c:KV):Bool:=match v with
 |.ptr b o=>c (.ptr b o) h
 |.rp l o=>c (.rp l o) h
 |.fn f a b=>c (.fn f a b) h
 |.yld l=>c (.yld l) h
 |_=>false
def bu (v:V) (i:Nat) (h:Hp) (c:KV):Bool:=match v with
 |.tup l=>nth l i fun x=>c x h
 |_=>false
def Jt (q:CK) (k v:V) (clock:Nat):List ME→(List ME→Nat→Bool)→Bool
 | [],c=>c [.mk k v clock] (clock+1)
 |e::es,c=>(match e with
  |.mk k' v' b=>Bk q k k' fun e=>(match e with
   |true=>c (.mk k v b::es) clock
   |false=>Jt q k v clock es fun es' n=>c (.mk k' v' b::es') n))
noncomputable def Fx (q:CK) (m k x:V) (h:Hp) (c:Hp→Bool):Bool:=match m with
 |.map b=>(match blk h b with
  |.map es clock=>Jt q k x clock es fun es' n=>DD h b (.map es' n) c
  |_=>false)
 |_=>false
def F0 (q:CK) (k:V) (z:V):List ME→(V→Bool→Bool)→Bool
 | [],c=>c z false
 |e::es,c=>(match e with
  |.mk k' v' _=>Bk q k k' fun e=>(match e with
   |true=>c v' true
   |false=>F0 q k z es c))
def got (ok:Bool) (v:V) (b:Bool):V:=match ok with
 |true=> .tup [v,.bool b]
 |false=>v
noncomputable def DX (q:CK) (m k z:V) (ok:Bool) (h:Hp) (c:KV):Bool:=match m with
 |.nilm=>c (got ok z false) h
 |.map b=>(match blk h b with
  |.map es _=>F0 q k z es fun v b=>c (got ok v b) h
  |_=>false)
 |_=>false
def bnd (v:Option V) (most d:Nat) (c:Nat→Bool):Bool:=match v with
 |none=>c d
 |some v=>(match v with
  |.int _ n=>(match n with
   |.ofNat m=>(match Nat.ble m most with|true=>c m|false=>false)
   |.negSucc _=>false)
  |_=>false)
def di (b:K) (off sz l hi m:Nat) (h:Hp) (c:KV):Bool:=
 match Nat.beq m l with
  |true=>Cu (hi-l) fun n=>Cu (m-l) fun cp=>c (.sl b off n cp 0) h
  |false=>Cu (off+l*sz) fun o=>Cu (hi-l) fun n=>Cu (m-l) fun cp=>c (.sl b o n cp 0) h
def AaG (b:K) (off op sz l hi m:Nat) (h:Hp) (c:KV):Bool:=
 match Nat.beq op sz with
 |false=>false
 |true=>(match Nat.ble hi m with
  |false=>false
  |true=>(match Nat.beq m l with
   |true=>(match l with
    |0=>Cu hi fun n=>c (.sl b off n m op) h
    |_+1=>c .esl h)
   |false=>Cu (off+l*sz) fun o=>Cu (hi-l) fun n=>Cu (m-l) fun cp=>c (.sl b o n cp op) h))
def um (q:List V) (off sz l hi m:Nat) (h:Hp) (c:KV):Bool:=
 match Nat.beq m l with
  |true=>Cu (hi-l) fun n=>Cu (m-l) fun cp=>c (.rsl q off n cp) h
  |false=>Cu (off+l*sz) fun o=>Cu (hi-l) fun n=>Cu (m-l) fun cp=>c (.rsl q o n cp) h
def BT (x:V) (lo hi mx:Option V) (sz:Nat) (h:Hp) (c:KV):Bool:=match x with
 |.nils=>(match mx with
  |none=>bnd hi 0 0 fun _=>bnd lo 0 0 fun _=>c .nils h
  |some mx=>(match hi with
   |none=>false
   |some hi=>bnd (some mx) 0 0 fun _=>bnd (some hi) 0 0 fun _=>bnd lo 0 0 fun _=>c .nils h))
 |.sl b off len cap op=>(match mx with
  |none=>bnd hi cap len fun hi=>bnd lo hi 0 fun l=>(match op with
   |0=>di b off sz l hi cap h c
   |op+1=>AaG b off (op+1) sz l hi cap h c)
  |some mx=>bnd (some mx) cap cap fun m=>(match hi with
   |none=>false
   |some hi=>bnd (some hi) m len fun hi=>bnd lo hi 0 fun l=>(match op with
    |0=>di b off sz l hi m h c
    |_+1=>(match Nat.blt l m with
     |true=>di b off sz l hi m h c
     |false=>false))))
 |.rsl q off len cap=>(match mx with
  |none=>bnd hi cap len fun hi=>bnd lo hi 0 fun l=>um q off sz l hi cap h c
  |some mx=>bnd (some mx) cap cap fun m=>(match hi with
   |none=>false
   |some hi=>bnd (some hi) m len fun hi=>bnd lo hi 0 fun l=>um q off sz l hi m h c))
 |.esl=>(match mx with
  |none=>bnd hi 0 0 fun _=>bnd lo 0 0 fun _=>c .esl h
  |some _=>false)
 |_=>false
def DV (x:V) (lo hi:Option V) (h:Hp) (c:KV):Bool:=match x with
 |.str s=>Cu (On s) fun n=>bnd hi n n fun e=>bnd lo e 0 fun l=>c (.str (Fd l (eZ e s))) h
 |_=>false
def EC (x:V) (lo hi mx:Option V) (sz n:Nat) (h:Hp) (c:KV):Bool:=match x with
 |.ptr b off=>(match mx with
  |none=>bnd hi n n fun e=>bnd lo e 0 fun l=>di b off sz l e n h c
  |some _=>false)
 |_=>false
def HZ (x i:V) (h:Hp) (c:KV):Bool:=match x with
 |.str s=>(match i with
  |.int _ i=>(match i with
   |.ofNat m=>nth s m fun b=>c (.int .u8 (.ofNat b)) h
   |.negSucc _=>false)
  |_=>false)
 |_=>false
def NQ (l:List V) (off n:Nat) (agg:Bool) (h:Hp) (c:KV):Bool:=match agg with
 |true=>Et n (Fd off l) fun r=>c (.agg r) h
 |false=>nth l off fun x=>c x h
def IY (x i:V) (sz n:Nat) (agg:Bool) (h:Hp) (c:KV):Bool:=match x with
 |.agg l=>(match i with
  |.int _ i=>(match i with
   |.ofNat m=>(match Nat.blt m n with
    |true=>NQ l (m*sz) sz agg h c
    |false=>false)
   |.negSucc _=>false)
  |_=>false)
 |_=>false
def Ko (k:IntKind) (x:V) (h:Hp) (c:KV):Bool:=match x with
 |.int _ n=>mkI k n h c
 |_=>false
def Cy:List Nat→List V
 | []=> []
 |n::l=> .int .u8 (.ofNat n)::Cy l
noncomputable def JO (need:Nat) (c:Nat→Bool):Bool:= @ite _ (∀cp,need≤cp→cp<9223372036854775808→c cp=true) (Classical.propDecidable _) true false
noncomputable def FY (x:V) (u:Bool) (h:Hp) (c:KV):Bool:=match x with
 |.str s=>(match u with
  |false=>Bw h (.cells (Cy s)) fun b h'=>Cu (On s) fun n=>c (.sl b 0 n n 1) h'
  |true=>(match Nat.ble (On s) 1000000000 with
   |true=>JO (On s) fun cp=>Bw h (.cells (Cy s++rep (cp-On s) [.int .u8 (.ofNat 0)])) fun b h'=>c (.sl b 0 (On s) cp 0) h'
   |false=>false))
 |_=>false
def H6:List V→(List Nat→Bool)→Bool
 | [],c=>c []
 |v::l,c=>(match v with
  |.int k n=>(match k with
   |.u8=>(match n with
    |.ofNat n=>(match Nat.blt n 256 with
     |true=>H6 l fun r=>c (n::r)
     |false=>false)
    |.negSucc _=>false)
   |_=>false)
  |_=>false)
noncomputable def EZ (x:V) (h:Hp) (c:KV):Bool:=match x with
 |.nils=>c (.str []) h
 |.esl=>c (.str []) h
 |.sl b off len _ _=>(match len with
  |0=>c (.str []) h
  |n+1=>cellsOf h b fun l=>Et (n+1) (Fd off l) fun r=>H6 r fun s=>c (.str s) h)
 |_=>false
def gg (x:V) (off n:Nat) (agg:Bool) (h:Hp) (c:KV):Bool:=match x with
 |.agg l=>NQ l off n agg h c
 |_=>false
noncomputable def Bf (l cp:V) (z:List V) (bytes:Nat) (h:Hp) (c:KV):Bool:=match l with
 |.int _ l=>(match cp with
  |.int _ cp=>(match l with
   |.ofNat l=>(match cp with
    |.ofNat cp=>(match Nat.ble l cp with
     |true=>(match Nat.ble (cp*(bytes+1)) 1000000000 with
      |true=>Bw h (.cells (rep cp z)) fun b h'=>c (.sl b 0 l cp 0) h'
      |false=>false)
     |false=>false)
    |.negSucc _=>false)
   |.negSucc _=>false)
  |_=>false)
 |_=>false
def za (x:V) (t:Nat) (z:V) (ok:Bool) (h:Hp) (c:KV):Bool:=match x with
 |.ifc t' v=>(match Nat.beq t t' with
  |true=>c (got ok v true) h
  |false=>(match ok with|true=>c (.tup [z,.bool false]) h|false=>false))
 |.nili=>(match ok with|true=>c (.tup [z,.bool false]) h|false=>false)
 |_=>false
noncomputable def GX (q:LK) (x:V) (h:Hp) (c:KV):Bool:=match q with
 |.str=>(match x with
  |.str s=>Cu (On s) fun n=>c (.int .i64 (.ofNat n)) h
  |_=>false)
 |.sl=>(match x with
  |.nils=>c (.int .i64 (.ofNat 0)) h
  |.sl _ _ n _ _=>c (.int .i64 (.ofNat n)) h
  |.rsl _ _ n _=>c (.int .i64 (.ofNat n)) h
  |.esl=>c (.int .i64 (.ofNat 0)) h
  |_=>false)
 |.map=>(match x with
  |.nilm=>c (.int .i64 (.ofNat 0)) h
  |.map b=>(match blk h b with
   |.map es _=>Cu (On es) fun n=>c (.int .i64 (.ofNat n)) h
   |_=>false)
  |_=>false)
def gp (x:V) (h:Hp) (c:KV):Bool:=match x with
 |.nils=>c (.int .i64 (.ofNat 0)) h
 |.sl _ _ _ n op=>(match op with|0=>c (.int .i64 (.ofNat n)) h|_+1=>false)
 |.rsl _ _ _ n=>c (.int .i64 (.ofNat n)) h
 |_=>false
noncomputable def Ea (h:Hp) (b:K) (off n:Nat) (c:List V→Bool):Bool:=match n with
 |0=>c []
 |n+1=>cellsOf h b fun l=>Et (n+1) (Fd off l) c
noncomputable def DQ (x:V) (sz:Nat) (h:Hp) (c:Nat→List V→Bool):Bool:=match x with
 |.nils=>c 0 []
 |.sl b off n _ _=>Ea h b off (n*sz) fun l=>c n l
 |.rsl l off n _=>Et (n*sz) (Fd off l) fun q=>c n q
 |.esl=>c 0 []
 |.str s=>(match sz with
  |1=>Cu (On s) fun n=>c n (Cy s)
  |_=>false)
 |_=>false
noncomputable def storeAt (h:Hp) (b:K) (off:Nat) (new:List V) (c:Hp→Bool):Bool:=match new with
 | []=>c h
 |x::r=>cellsOf h b fun l=>AN off l (x::r) fun l'=>DD h b (.cells l') c
noncomputable def El (u:Option (List V)) (old new:List V) (sz need:Nat) (h:Hp) (c:KV):Bool:=match u with
 |none=>Bw h (.cells (old++new)) fun b h'=>c (.sl b 0 need need sz) h'
 |some z=>JO need fun cp=>Bw h (.cells (old++new++rep (cp-need) z)) fun b h'=>c (.sl b 0 need cp 0) h'
noncomputable def Mq (u:Option (List V)) (b:K) (off len op need:Nat) (new:List V) (sz bytes:Nat) (h:Hp) (c:KV):Bool:=
 match Nat.ble (need*(bytes+1)) 1000000000 with
 |true=>(match op with
  |0=>Ea h b off (len*sz) fun old=>El u old new sz need h c
  |op+1=>(match u with
   |some _=>false
   |none=>(match Nat.beq (op+1) sz with
    |true=>cellsOf h b fun _=>Ea h b off (len*sz) fun old=>DD h b .none fun h'=>El none old new sz need h' c
    |false=>false)))
 |false=>false
noncomputable def Hi (u:Option (List V)) (s:V) (n:Nat) (new:List V) (sz bytes:Nat) (h:Hp) (c:KV):Bool:=match s with
 |.nils=>(match n with
  |0=>c .nils h
  |n+1=>(match Nat.ble ((n+1)*(bytes+1)) 1000000000 with
   |true=>El u [] new sz (n+1) h c
   |false=>false))
 |.sl b off len cap op=>Cu (len+n) fun need=>(match Nat.ble need cap with
  |true=>storeAt h b (off+len*sz) new fun h'=>c (.sl b off need cap op) h'
  |false=>Mq u b off len op need new sz bytes h c)
 |.rsl l off len cap=>Cu (len+n) fun need=>(match Nat.ble need cap with
  |true=>(match n with
   |0=>c (.rsl l off len cap) h
   |_+1=>false)
  |false=>(match Nat.ble (need*(bytes+1)) 1000000000 with
   |true=>Et (len*sz) (Fd off l) fun old=>El u old new sz need h c
   |false=>false))
 |.esl=>(match n with
  |0=>c .esl h
  |_+1=>false)
 |_=>false
noncomputable def eQ (u:Option (List V)) (s x:V) (sz bytes:Nat) (h:Hp) (c:KV):Bool:=match sz with
 |0=>false
 |sz+1=>DQ x (sz+1) h fun n new=>Hi u s n new (sz+1) bytes h c
noncomputable def RN (u:Option (List V)) (s x:V) (sz bytes:Nat) (z:List V) (h:Hp) (c:KV):Bool:=match sz with
 |0=>false
 |sz+1=>(match x with
  |.int _ n=>(match n with
   |.ofNat n=>(match Nat.ble (n*(bytes+1)) 1000000000 with
    |true=>BP z (sz+1) (Hi u s n (rep n z) (sz+1) bytes h c)
    |false=>false)
   |.negSucc _=>false)
  |_=>false)
noncomputable def RL (d s:V) (sz:Nat) (h:Hp) (c:KV):Bool:=match d with
 |.sl b off len _ _=>DQ s sz h fun n0 new=>(match Nat.ble n0 len with
  |true=>storeAt h b off new fun h'=>c (.int .i64 (.ofNat n0)) h'
  |false=>false)
 |_=>false
noncomputable def AbC (x:V) (z:List V) (h:Hp) (c:Hp→Bool):Bool:=match x with
 |.nils=>c h
 |.sl b off len _ _=>storeAt h b off (rep len z) c
 |_=>false
noncomputable def gn (x:V) (h:Hp) (c:Hp→Bool):Bool:=match x with
 |.nilm=>c h
 |.map b=>(match blk h b with
  |.map _ clock=>DD h b (.map [] clock) c
  |_=>false)
 |_=>false
def wT (n:Nat):List Nat→Bool
 | []=>false
 |m::l=>(match Nat.beq n m with|true=>true|false=>wT n l)
def QM (since:Nat):List ME→Bool
 | []=>true
 |e::es=>(match e with|.mk _ _ b=>(match Nat.blt b since with|true=>QM since es|false=>false))
def Du (seen:List Nat):List ME→Bool
 | []=>true
 |e::es=>(match e with|.mk _ _ b=>(match wT b seen with|true=>Du seen es|false=>false))
def bB (seen:List Nat) (c:V→V→Nat→Bool):List ME→Bool
 | []=>true
 |e::es=>(match e with|.mk k v b=>(match wT b seen with
  |true=>bB seen c es
  |false=>(match c k v b with|true=>bB seen c es|false=>false)))
noncomputable def oG (s:Bool) (x:V) (h:Hp) (c:KV):Bool:=match s with
 |true=>(match x with
  |.str s=>Bw h (.iterS s 0) fun b h'=>c (.ptr b 0) h'
  |_=>false)
 |false=>(match x with
  |.nilm=>Bw h (.iter none 0 [] 0) fun b h'=>c (.ptr b 0) h'
  |.map m=>(match blk h m with
   |.map _ clock=>Bw h (.iter (some m) clock [] clock) fun b h'=>c (.ptr b 0) h'
   |_=>false)
  |_=>false)
noncomputable def fW (x:V) (h:Hp) (c:KV):Bool:=match x with
 |.ptr b o=>(match o with
  |0=>(match blk h b with
   |.iterS s pos=>Cu (On s) fun n=>(match Nat.blt pos n with
    |false=>c (.tup [.bool false]) h
    |true=>nth s pos fun a=>(match Nat.blt a 128 with
     |true=>Cu (pos+1) fun q=>DD h b (.iterS s q) fun h'=>c (.tup [.bool true,.int .i64 (.ofNat pos),.int .i32 (.ofNat a)]) h'
     |false=>false))
   |_=>false)
  |_+1=>false)
 |_=>false
noncomputable def AaD (x:V) (h:Hp) (c:KV):Bool:=match x with
 |.ptr b o=>(match o with
  |0=>(match blk h b with
   |.iter m since seen last=>(match m with
    |none=>c (.tup [.bool false]) h
    |some m=>(match blk h m with
     |.map es clock=>(match QM since es with
      |true=>(match Nat.ble since last with
       |true=>(match Du seen es with
        |true=>c (.tup [.bool false]) h
        |false=>bB seen (fun k v q=>DD h b (.iter (some m) since (seen++ [q]) clock) fun h'=>c (.tup [.bool true,k,v]) h') es)
       |false=>false)
      |false=>false)
     |_=>false))
   |_=>false)
  |_+1=>false)
 |_=>false
def tW:List Nat→(Nat→Bool)→Bool
 | [],_=>false
 |n::l,c=>(match l with| []=>c n|_::_=>tW l c)
def iX (q:Nat) (c:V→V→Bool):List ME→Bool
 | []=>false
 |e::es=>(match e with|.mk k v b=>(match Nat.beq b q with|true=>c k v|false=>iX q c es))
noncomputable def AaE (x:V) (h:Hp) (c:KV):Bool:=match x with
 |.ptr b o=>(match o with
  |0=>(match blk h b with
   |.iter m _ seen last=>(match m with
    |none=>false
    |some m=>(match blk h m with
     |.map es clock=>(match Nat.beq clock last with
      |true=>tW seen fun q=>iX q (fun k v=>c (.tup [k,v]) h) es
      |false=>false)
     |_=>false))
   |_=>false)
  |_+1=>false)
 |_=>false
def mxn (mx:Bool) (a b:V) (c:V→Bool):Bool:=match a with
 |.int k x=>(match b with
  |.int k' y=>BO k k' (match mx with
   |true=>(match ltI x y with|true=>c (.int k y)|false=>c (.int k x))
   |false=>(match ltI y x with|true=>c (.int k y)|false=>c (.int k x)))
  |_=>false)
 |_=>false
def Oa (mx:Bool):List V→V→(V→Bool)→Bool
 | [],a,c=>c a
 |b::l,a,c=>mxn mx a b fun a'=>Oa mx l a' c
def DA (x y:V) (h:Hp) (c:KV):Bool:=match x with
 |.str a=>(match y with
  |.str b=>(match ltL a b with
   |true=>c (.int .i64 (.negSucc 0)) h
   |false=>(match CR a b with
    |true=>c (.int .i64 (.ofNat 0)) h
    |false=>c (.int .i64 (.ofNat 1)) h))
  |_=>false)
 |_=>false
abbrev KC:=End→Option Md→Hp→Bool
abbrev As:=Tgt→List V→Option Md→Hp→KC→Bool
abbrev KS:=T V→Dc→Hp→Bool
abbrev KP:=List PE→T V→Dc→Hp→Bool
noncomputable def put (dst:Option K) (v:V) (t:T V) (c:T V→Bool):Bool:=match dst with
 |none=>c t
 |some k=>T.set und v k t c
noncomputable def Ix (dst:Option K) (t:T V) (d:Dc) (k:KS) (p:KP) (e:End) (h:Hp):Bool:=match e with
 |.ret v=>put dst v t fun t'=>k t' d h
 |.pan ch=>p ch t d h
noncomputable def df (C:As) (dst:Option K) (f:Nat) (args:List V) (t:T V) (d:Dc) (h:Hp) (k:KS) (p:KP):Bool:=
 C (.fn f) args none h fun e _ h'=>Ix dst t d k p e h'
noncomputable def GJ (C:As) (dst:Option K) (f:V) (args:List V) (t:T V) (d:Dc) (h:Hp) (k:KS) (p:KP):Bool:=match f with
 |.fn f first captured=>df C dst f (first++(args++captured)) t d h k p
 |.yld l=>C (.round l) args none h fun e _ h'=>Ix dst t d k p e h'
 |_=>false
noncomputable def DH (dst:Option K) (t:T V) (d:Dc) (h:Hp) (k:KS):Bool:=match d with
 |.rnd=>false
 |.mk ds cm=>(match cm with
  |none=>put dst .nili t fun t'=>k t' (.mk ds none) h
  |some m=>(match m with
   |.ret=>put dst .nili t fun t'=>k t' (.mk ds (some .ret)) h
   |.pan ch=>(match ch with
    | []=>false
    |e::older=>(match e with
     |⟨v,r⟩=>(match r with
      |true=>put dst .nili t fun t'=>k t' (.mk ds (some (.pan (⟨v,true⟩::older)))) h
      |false=>put dst v t fun t'=>k t' (.mk ds (some (.pan (⟨v,true⟩::older)))) h)))))
def Oz (v:V) (t:T V) (d:Dc) (h:Hp) (p:KP):Bool:=match v with
 |.ifc ty x=>p [⟨.ifc ty x,false⟩] t d h
 |_=>false
def GI (f:V) (args:List V) (d:Dc) (c:Dc→Bool):Bool:=match f with
 |.fn f first captured=>(match d with
  |.mk ds cm=>c (.mk (.call f (first++(args++captured))::ds) cm)
  |.rnd=>false)
 |_=>false
abbrev OpF:=Option K→T V→Dc→Hp→KS→KP→Bool
noncomputable def kv (dst:Option K) (t:T V) (d:Dc) (k:KS):KV:=fun v h'=>put dst v t fun t'=>k t' d h'
noncomputable def kh (dst:Option K) (t:T V) (d:Dc) (k:KS):Hp→Bool:=fun h'=>put dst und t fun t'=>k t' d h'
noncomputable def Bd (C:As) (o:AOp):OpF:=
 AOp.rec (motive:=fun _=>As→OpF)
  (mv:=fun x _ dst t d h k _=>kv dst t d k (ev t x) h)
  (mvh:=fun x _ dst t d h k _=>kv dst t d k (ev t x) h)
  (pick:=fun c a b _ dst t d h k _=>IX (ev t c) (ev t a) (ev t b) h (kv dst t d k))
  (load1:=fun x _ dst t d h k _=>BU (ev t x) h (kv dst t d k))
  (loadN:=fun x n _ dst t d h k _=>CV (ev t x) n h (kv dst t d k))
  (addOff:=fun x n _ dst t d h k _=>CL (ev t x) n h (kv dst t d k))
  (ibin:=fun op x y _ dst t d h k _=>AU op (ev t x) (ev t y) h (kv dst t d k))
  (sbin:=fun op x y _ dst t d h k _=>Fw op (ev t x) (ev t y) h (kv dst t d k))
  (eqv:=fun neg q x y _ dst t d h k _=>oEq neg q (ev t x) (ev t y) h (kv dst t d k))
  (box:=fun x _ dst t d h k _=>Kq (ev t x) h (kv dst t d k))
  (alloc:=fun z _ dst t d h k _=>Bw h (.cells z) fun b h'=>kv dst t d k (.ptr b 0) h')
  (mk:=fun z ps _ dst t d h k _=>oMk t z ps h (kv dst t d k))
  (mkSl:=fun z ps len _ dst t d h k _=>Gz t z ps len h (kv dst t d k))
  (not:=fun x _ dst t d h k _=>fX (ev t x) h (kv dst t d k))
  (neg:=fun x _ dst t d h k _=>sZ (ev t x) h (kv dst t d k))
  (idx:=fun x i sz _ dst t d h k _=>Jq (ev t x) (ev t i) sz h (kv dst t d k))
  (idxA:=fun x i sz n _ dst t d h k _=>IZ (ev t x) (ev t i) sz n h (kv dst t d k))
  (store:=fun a x n _ dst t d h k _=>Bj (ev t a) (ev t x) n h (kh dst t d k))
  (nilchk:=fun x _ dst t d h k _=>DW (ev t x) h (kv dst t d k))
  (ext:=fun x i _ dst t d h k _=>bu (ev t x) i h (kv dst t d k))
  (mkf:=fun f a b _ dst t d h k _=>kv dst t d k (.fn f (evs t a) (evs t b)) h)
  (mapset:=fun q m i x _ dst t d h k _=>Fx q (ev t m) (ev t i) (ev t x) h (kh dst t d k))
  (mapget:=fun q m i z ok _ dst t d h k _=>DX q (ev t m) (ev t i) z ok h (kv dst t d k))
  (slice:=fun x lo hi mx sz _ dst t d h k _=>BT (ev t x) (evo t lo) (evo t hi) (evo t mx) sz h (kv dst t d k))
  (sliceS:=fun x lo hi _ dst t d h k _=>DV (ev t x) (evo t lo) (evo t hi) h (kv dst t d k))
  (sliceA:=fun x lo hi mx sz n _ dst t d h k _=>EC (ev t x) (evo t lo) (evo t hi) (evo t mx) sz n h (kv dst t d k))
  (idxS:=fun x i _ dst t d h k _=>HZ (ev t x) (ev t i) h (kv dst t d k))
  (idxG:=fun x i sz n agg _ dst t d h k _=>IY (ev t x) (ev t i) sz n agg h (kv dst t d k))
  (mkmap:=fun _ dst t d h k _=>Bw h (.map [] 0) fun b h'=>kv dst t d k (.map b) h')
  (conv:=fun ik x _ dst t d h k _=>Ko ik (ev t x) h (kv dst t d k))
  (toBytes:=fun x u _ dst t d h k _=>FY (ev t x) u h (kv dst t d k))
  (ofBytes:=fun x _ dst t d h k _=>EZ (ev t x) h (kv dst t d k))
  (fld:=fun x off n agg _ dst t d h k _=>gg (ev t x) off n agg h (kv dst t d k))
  (mkslice:=fun l c z bytes _ dst t d h k _=>Bf (ev t l) (ev t c) z bytes h (kv dst t d k))
  (tas:=fun x ty z ok _ dst t d h k _=>za (ev t x) ty z ok h (kv dst t d k))
  (mkif:=fun ty x _ dst t d h k _=>kv dst t d k (.ifc ty (ev t x)) h)
  (panic:=fun x _ _ t d h _ p=>Oz (ev t x) t d h p)
  (len:=fun q x _ dst t d h k _=>GX q (ev t x) h (kv dst t d k))
  (cap:=fun x _ dst t d h k _=>gp (ev t x) h (kv dst t d k))
  (app:=fun s x sz bytes u _ dst t d h k _=>eQ u (ev t s) (ev t x) sz bytes h (kv dst t d k))
  (appz:=fun s x sz bytes z u _ dst t d h k _=>RN u (ev t s) (ev t x) sz bytes z h (kv dst t d k))
  (copy:=fun a b sz _ dst t d h k _=>RL (ev t a) (ev t b) sz h (kv dst t d k))
  (clr:=fun x z _ dst t d h k _=>AbC (ev t x) z h (kh dst t d k))
  (clrm:=fun x _ dst t d h k _=>gn (ev t x) h (kh dst t d k))
  (mxn:=fun mx x l _ dst t d h k _=>Oa mx (evs t l) (ev t x) fun v=>kv dst t d k v h)
  (rng:=fun s x _ dst t d h k _=>oG s (ev t x) h (kv dst t d k))
  (nxt:=fun x _ dst t d h k _=>AaD (ev t x) h (kv dst t d k))
  (nxtS:=fun x _ dst t d h k _=>fW (ev t x) h (kv dst t d k))
  (ent:=fun x _ dst t d h k _=>AaE (ev t x) h (kv dst t d k))
  (recover:=fun _ dst t d h k _=>DH dst t d h k)
  (call:=fun f args C dst t d h k p=>df C dst f (evs t args) t d h k p)
  (callv:=fun f args C dst t d h k p=>GJ C dst (ev t f) (evs t args) t d h k p)
  (cmpStr:=fun x y _ dst t d h k _=>DA (ev t x) (ev t y) h (kv dst t d k))
  (defer:=fun f args _ dst t d h k _=>GI (ev t f) (evs t args) d fun d'=>put dst und t fun t'=>k t' d' h)
  (bad:=fun _ _ _ _ _ _ _=>false)
  o C
noncomputable def wanted (g:Option (K×Bool)) (t:T V) (yes no:Bool):Bool:=match g with
 |none=>yes
 |some p=>(match T.get und p.1 t with
  |.bool b=>(match b with
   |true=>(match p.2 with|true=>yes|false=>no)
   |false=>(match p.2 with|true=>no|false=>yes))
  |_=>no)
noncomputable def Bv (C:As) (l:List AO):T V→Dc→Hp→KS→KP→Bool:=
 List.rec (motive:=fun _=>T V→Dc→Hp→KS→KP→Bool)
  (fun t d h k _=>k t d h)
  (fun o _ ih t d h k p=>AO.rec (motive:=fun _=>Bool) (fun dst g op=>
   wanted g t (Bd C op dst t d h (fun t' d' h'=>ih t' d' h' k p) p) (put dst und t fun t'=>ih t' d h k p)) o) l
def Cd (f:V→V→Bool):List V→List V→Bool
 | [],y=>(match y with| []=>true|_::_=>false)
 |a::x,y=>(match y with
  | []=>false
  |b::y=>(match f a b with|true=>Cd f x y|false=>false))
def kEq (a b:IntKind):Bool:=decide (a=b)
noncomputable def HN (l l':List V):Bool:= @ite _ (l=l') (Classical.propDecidable _) true false
noncomputable def veq:Nat→V→V→Bool
 |0,_,_=>false
 |n+1,x,y=>(match x with
  |.int k a=>(match y with|.int k' b=>(match kEq k k' with|true=>Aq a b|false=>false)|_=>false)
  |.bool a=>(match y with|.bool b=>(match a with|true=>b|false=> !b)|_=>false)
  |.str a=>(match y with|.str b=>CR a b|_=>false)
  |.nilp=>(match y with|.nilp=>true|_=>false)
  |.ptr b o=>(match y with|.ptr b' o'=>(match K.beq b b' with|true=>Nat.beq o o'|false=>false)|_=>false)
  |.nils=>(match y with|.nils=>true|_=>false)
  |.sl b o l c p=>(match y with
   |.sl b' o' l' c' p'=>(match K.beq b b' with|true=>(match Nat.beq o o' with|true=>(match Nat.beq l l' with|true=>(match Nat.beq c c' with|true=>Nat.beq p p'|false=>false)|false=>false)|false=>false)|false=>false)
   |_=>false)
  |.nilm=>(match y with|.nilm=>true|_=>false)
  |.map b=>(match y with|.map b'=>K.beq b b'|_=>false)
  |.fn f a c=>(match y with|.fn f' a' c'=>(match Nat.beq f f' with|true=>(match Cd (veq n) a a' with|true=>Cd (veq n) c c'|false=>false)|false=>false)|_=>false)
  |.yld l=>(match y with|.yld l'=>K.beq l l'|_=>false)
  |.nilf=>(match y with|.nilf=>true|_=>false)
  |.ifc t v=>(match y with|.ifc t' v'=>(match Nat.beq t t' with|true=>veq n v v'|false=>false)|_=>false)
  |.nili=>(match y with|.nili=>true|_=>false)
  |.agg l=>(match y with|.agg l'=>Cd (veq n) l l'|_=>false)
  |.tup l=>(match y with|.tup l'=>Cd (veq n) l l'|_=>false)
  |.rp l o=>(match y with|.rp l' o'=>(match Nat.beq o o' with|true=>HN l l'|false=>false)|_=>false)
  |.rsl l o n c=>(match y with
   |.rsl l' o' n' c'=>(match Nat.beq o o' with|true=>(match Nat.beq n n' with|true=>(match Nat.beq c c' with|true=>HN l l'|false=>false)|false=>false)|false=>false)
   |_=>false)
  |.esl=>(match y with|.esl=>true|_=>false))
noncomputable def Fu (o:AOp) (t:T V) (h:Hp) (c:KV):Bool:=match o with
 |.mv x=>c (ev t x) h
 |.pick q a b=>IX (ev t q) (ev t a) (ev t b) h c
 |.load1 x=>BU (ev t x) h c
 |.loadN x n=>CV (ev t x) n h c
 |.addOff x n=>CL (ev t x) n h c
 |.ibin op x y=>AU op (ev t x) (ev t y) h c
 |.sbin op x y=>Fw op (ev t x) (ev t y) h c
 |.eqv neg q x y=>oEq neg q (ev t x) (ev t y) h c
 |.mk z ps=>oMk t z ps h c
 |.not x=>fX (ev t x) h c
 |.neg x=>sZ (ev t x) h c
 |.idx x i sz=>Jq (ev t x) (ev t i) sz h c
 |.idxA x i sz n=>IZ (ev t x) (ev t i) sz n h c
 |.nilchk x=>DW (ev t x) h c
 |.ext x i=>bu (ev t x) i h c
 |.mkf f a b=>c (.fn f (evs t a) (evs t b)) h
 |.mapget q m i z ok=>DX q (ev t m) (ev t i) z ok h c
 |.sliceS x lo hi=>DV (ev t x) (evo t lo) (evo t hi) h c
 |.slice x lo hi mx sz=>BT (ev t x) (evo t lo) (evo t hi) (evo t mx) sz h c
 |.sliceA x lo hi mx sz n=>EC (ev t x) (evo t lo) (evo t hi) (evo t mx) sz n h c
 |.idxS x i=>HZ (ev t x) (ev t i) h c
 |.idxG x i sz n agg=>IY (ev t x) (ev t i) sz n agg h c
 |.conv ik x=>Ko ik (ev t x) h c
 |.fld x off n agg=>gg (ev t x) off n agg h c
 |.mkif ty x=>c (.ifc ty (ev t x)) h
 |.len q x=>GX q (ev t x) h c
 |.cap x=>gp (ev t x) h c
 |.mxn mx x l=>Oa mx (evs t l) (ev t x) fun v=>c v h
 |.cmpStr x y=>DA (ev t x) (ev t y) h c
 |_=>false
noncomputable def GQ (h:Hp) (b:K) (l:List V):Bool:=match blk h b with
 |.cells l'=>Cd (veq 40) l' l
 |_=>false
noncomputable def Bg (o:AOp) (t:T V) (h:Hp) (v:V):Bool:=match o with
 |.box x=>(match v with
  |.ptr b o=>(match o with|0=>Ba (ev t x) fun l=>GQ h b l|_+1=>false)
  |_=>false)
 |.alloc z=>(match v with
  |.ptr b o=>(match o with|0=>GQ h b z|_+1=>false)
  |_=>false)
 |.mkSl z ps len=>(match v with
  |.sl b o l c p=>(match o with
   |0=>(match Nat.beq l len with
    |true=>(match Nat.beq c len with
     |true=>(match p with
      |0=>fill t ps z fun z'=>GQ h b z'
      |_+1=>false)
     |false=>false)
    |false=>false)
   |_+1=>false)
  |_=>false)
 |.mkslice l c z bytes=>(match v with
  |.sl b o n cp p=>(match o with
   |0=>(match p with
    |0=>(match ev t l with
     |.int _ l=>(match ev t c with
      |.int _ c=>(match Aq l (.ofNat n) with
       |true=>(match Aq c (.ofNat cp) with
        |true=>(match Nat.ble n cp with
         |true=>(match Nat.ble (cp*(bytes+1)) 1000000000 with
          |true=>GQ h b (rep cp z)
          |false=>false)
         |false=>false)
        |false=>false)
       |false=>false)
      |_=>false)
     |_=>false)
    |_+1=>false)
   |_+1=>false)
  |_=>false)
 |o=>Fu o t h fun v' _=>veq 40 v' v
noncomputable def TM (o:AO) (t:T V) (h:Hp):Bool:=match o with
 |⟨dst,g,op⟩=>(match dst with
  |none=>false
  |some k=>wanted g t (Bg op t h (T.get und k t)) (veq 2 und (T.get und k t)))
noncomputable def Br (t:T V) (h:Hp):List AO→Bool
 | []=>true
 |o::l=>(match TM o t h with
  |true=>Br t h l
  |false=>false)
noncomputable def AY (C:As):List Fe→T V→Dc→Hp→KS→KP→Bool
 | [],t,d,h,k,_=>k t d h
 |s::l,t,d,h,k,p=>Bv C s.ops t d h (fun t1 d1 h1=>(match Br t1 h1 s.chk with
   |false=>false
   |true=>(match s.heavy with
    |none=>AY C l t1 d1 h1 k p
    |some o=>Bv C [o] t1 d1 h1 (fun t2 d2 h2=>AY C l t2 d2 h2 k p) p))) (fun _ _ _ _=>false)
def QX (v v':V) (c:Bool):Bool:=match v with
 |.ptr b _=>(match v' with
  |.ptr b' _=>(match K.beq b b' with|true=>false|false=>c)
  |_=>false)
 |_=>false
noncomputable def Dz (C:As) (p:wQ) (t:T V) (d:Dc) (h:Hp) (k:KS):Bool:=
 Bv C p.ops t d h (fun t1 d1 h1=>(match Br t1 h1 p.chk with
  |false=>false
  |true=>QX (ev t1 p.a1) (ev t1 p.a2)
   (match (Bj (ev t1 p.a2) (ev t1 p.x2) p.n2 h1 fun hB=>(match Br t1 hB p.c2 with
     |false=>false
     |true=>Bj (ev t1 p.a1) (ev t1 p.x1) p.n1 hB fun hBA=>Br t1 hBA p.e2)) with
    |false=>false
    |true=>Bj (ev t1 p.a1) (ev t1 p.x1) p.n1 h1 fun hA=>(match Br t1 hA p.c1 with
     |false=>false
     |true=>Bj (ev t1 p.a2) (ev t1 p.x2) p.n2 hA fun hAB=>(match Br t1 hAB p.e1 with
      |false=>false
      |true=>k t1 d1 hAB))))) (fun _ _ _ _=>false)
abbrev KE:=Ex→T V→Dc→Hp→Bool
def Dd (r:T V→Dc→Hp→Bool) (k:KE) (e:Ex) (t:T V) (d:Dc) (h:Hp):Bool:=match e with
 |.normal=>r t d h
 |.exit id=>k (.exit id) t d h
 |.ret=>k .ret t d h
 |.panic ch q=>k (.panic ch q) t d h
def iter (c:T V→Dc→Hp→KE→Bool):Nat→T V→Dc→Hp→KE→Bool
 |0,_,_,_,_=>false
 |n+1,t,d,h,k=>c t d h (Dd (fun t' d' h'=>iter c n t' d' h' k) k)
def Ek (id:Nat) (k:KE) (e:Ex) (t:T V) (d:Dc) (h:Hp):Bool:=match e with
 |.normal=>k .normal t d h
 |.exit id'=>(match Nat.beq id id' with|true=>k .normal t d h|false=>k (.exit id') t d h)
 |.ret=>k .ret t d h
 |.panic ch q=>k (.panic ch q) t d h
def JC (j:Jmp) (t:T V) (d:Dc) (h:Hp) (k:KE):Bool:=match j with
 |.none=>k .normal t d h
 |.ret=>k .ret t d h
 |.exit id=>k (.exit id) t d h
noncomputable def FX (l:K) (t:T V) (d:Dc) (k:KE) (e:End) (h:Hp):Bool:=match e with
 |.ret _=>(match blk h l with
  |.loop st j f t0 ps a b D=>(match st with
   |.busy=>false
   |_=>DD h l (.loop .exhausted j f t0 ps a b D) fun h'=>JC j t d h' k)
  |_=>false)
 |.pan ch=>k (.panic ch []) t d h
noncomputable def Fv (C:As) (fn:Nat) (f:V) (params:List K) (assign body:Aa) (D:K) (t:T V) (d:Dc) (h:Hp) (k:KE):Bool:=
 match f with
 |.fn g first captured=>Bw h (.loop .ready .none fn t params assign body D) fun l h'=>
   C (.fn g) (first++(.yld l::captured)) none h' fun e _ h''=>FX l t d k e h''
 |_=>false
noncomputable def DU (C:As) (fi:FI) (f:V) (params:List K) (assign body:Aa) (t:T V) (d:Dc) (h:Hp) (k:KE):Bool:=
 match fi with
 |.mk fn r=>(match r with
  |some l=>(match blk h l with
   |.loop _ _ _ _ _ _ _ D=>Fv C fn f params assign body D t d h k
   |_=>false)
  |none=>(match d with
   |.mk ds cm=>Bw h (.dfr []) fun D h'=>Fv C fn f params assign body D t (.mk (.coll D::ds) cm) h' k
   |.rnd=>false))
def dq (v:V) (a b:Bool):Bool:=match v with
 |.bool x=>(match x with|true=>a|false=>b)
 |_=>false
noncomputable def exec (C:As) (L:Nat) (fi:FI) (c:Aa):T V→Dc→Hp→KE→Bool:=
 Aa.rec (motive:=fun _=>T V→Dc→Hp→KE→Bool)
  (skip:=fun t d h k=>k .normal t d h)
  (reg:=fun ops t d h k=>Bv C ops t d h (fun t' d' h'=>k .normal t' d' h') (fun ch t' d' h'=>k (.panic ch []) t' d' h'))
  (draw:=fun l q t d h k=>AY C l t d h (fun t' d' h'=>k .normal t' d' h') (fun ch t' d' h'=>k (.panic ch q) t' d' h'))
  (draw2:=fun l pr q t d h k=>AY C l t d h (fun t' d' h'=>Dz C pr t' d' h' fun t2 d2 h2=>k .normal t2 d2 h2) (fun ch t' d' h'=>k (.panic ch q) t' d' h'))
  (seq:=fun _ _ iha ihb t d h k=>iha t d h (Dd (fun t' d' h'=>ihb t' d' h' k) k))
  (cond:=fun c _ _ iha ihb t d h k=>dq (ev t c) (iha t d h k) (ihb t d h k))
  (block:=fun id _ ih t d h k=>ih t d h (Ek id k))
  (loop:=fun _ ih t d h k=>iter ih L t d h k)
  (range:=fun f ps a b _ _ t d h k=>DU C fi (ev t f) ps a b t d h k)
  (exit:=fun id t d h k=>k (.exit id) t d h)
  (ret:=fun t d h k=>k .ret t d h)
  (bad:=fun _ _ _ _=>false)
  c
noncomputable def Dx:List V→K→T V→(T V→Bool)→Bool
 | [],_,t,c=>c t
 |v::l,i,t,c=>T.set und v i t fun t'=>Dx l i.succ t' c
noncomputable def CC:List K→List V→T V→(T V→Bool)→Bool
 | [],vs,t,c=>(match vs with| []=>c t|_::_=>false)
 |p::ps,vs,t,c=>(match vs with
  | []=>false
  |v::vs=>T.set und v p t fun t'=>CC ps vs t' c)
def kE (m:Md):Md:=match m with
 |.ret=> .ret
 |.pan ch=>(match ch with
  | []=> .pan []
  |e::older=>(match e with|⟨v,r⟩=>(match r with|true=> .ret|false=> .pan (⟨v,false⟩::older))))
def lg (m:Md) (ch:List PE):Md:=match m with
 |.ret=> .pan ch
 |.pan old=> .pan (ch++old)
def TI (q:List K) (k:K) (c:Bool):Bool:=match q with
 | []=>c
 |k'::q=>(match K.beq k' k with|true=>false|false=>TI q k c)
noncomputable def results (q:List K) (t:T V) (h:Hp):List RV→(List V→Bool)→Bool
 | [],c=>c []
 |r::l,c=>(match r with
  |.t k=>TI q k (results q t h l fun vs=>c (T.get und k t::vs))
  |.cell1 k=>TI q k (BU (T.get und k t) h fun v _=>results q t h l fun vs=>c (v::vs))
  |.cellN k n=>TI q k (CV (T.get und k t) n h fun v _=>results q t h l fun vs=>c (v::vs)))
def one (l:List V):V:=match l with
 | []=> .tup []
 |v::l=>(match l with| []=>v|w::l=> .tup (v::w::l))
def Acl (r:Md→Hp→Bool) (e:End) (u:Option Md) (h:Hp):Bool:=match u with
 |none=>false
 |some u=>(match e with
  |.ret _=>r (kE u) h
  |.pan ch=>r (lg u ch) h)
noncomputable def unwind (C:As) (res:List RV) (q:List K) (cm:Option Md) (t:T V):Nat→Md→List D→Hp→KC→Bool
 |0,_,_,_,_=>false
 |n+1,u,ds,h,k=>(match ds with
  | []=>(match u with
   |.ret=>results q t h res fun vs=>k (.ret (one vs)) cm h
   |.pan ch=>k (.pan ch) cm h)
  |d::ds=>(match d with
   |.coll b=>(match blk h b with
    |.dfr calls=>DD h b .none fun h'=>unwind C res q cm t n u (calls++ds) h' k
    |_=>false)
   |.call f args=>C (.fn f) args (some u) h (Acl fun u' h'=>unwind C res q cm t n u' ds h' k)))
noncomputable def De (C:As) (L:Nat) (res:List RV) (k:KC) (e:Ex) (t:T V) (d:Dc) (h:Hp):Bool:=match d with
 |.rnd=>false
 |.mk ds cm=>(match e with
  |.normal=>unwind C res [] cm t L .ret ds h k
  |.ret=>unwind C res [] cm t L .ret ds h k
  |.panic ch q=>unwind C res q cm t L (.pan ch) ds h k
  |.exit _=>false)
noncomputable def Ey (h:Hp) (l:K) (st:LSt) (j:Jmp) (c:Hp→Bool):Bool:=match blk h l with
 |.loop _ _ f t ps a b D=>DD h l (.loop st j f t ps a b D) c
 |_=>false
noncomputable def EX (l:K) (k:KC) (e:Ex) (h:Hp):Bool:=match e with
 |.normal=>Ey h l .ready .none fun h'=>k (.ret (.bool true)) none h'
 |.ret=>Ey h l .done .ret fun h'=>k (.ret (.bool false)) none h'
 |.exit id=>Ey h l .done (.exit id) fun h'=>k (.ret (.bool false)) none h'
 |.panic ch _=>k (.pan ch) none h
noncomputable def EY (l:K) (h:Hp) (c:Hp→Bool):Bool:=match blk h l with
 |.loop st j f t ps a b D=>(match st with
  |.ready=>DD h l (.loop .busy j f t ps a b D) c
  |_=>false)
 |_=>false
abbrev Eo:=List V→Hp→(V→Hp→Bool)→Bool
inductive FnE where
 |no
 |fn (a:Option AFn)
 |prim (g:Eo)
structure Env where
 fn:T FnE
noncomputable def Iw (C:As) (L:Nat) (E:Env) (f:Nat) (args:List V) (cm:Option Md) (h:Hp) (k:KC):Bool:=
 match T.get .no (K.of f) E.fn with
 |.no=>false
 |.prim g=>(match cm with
  |none=>g args h fun v h'=>k (.ret v) none h'
  |some _=>false)
 |.fn a=>(match a with
  |none=>false
  |some a=>(match a with
   |⟨body,res⟩=>Dx args .h .l fun t=>exec C L (.mk f none) body t (.mk [] cm) h (De C L res k)))
noncomputable def ND (C:As) (L:Nat) (fi:FI) (l:K) (body:Aa) (k:KC) (e:Ex) (t:T V) (d:Dc) (h:Hp):Bool:=match e with
 |.normal=>EY l h fun h2=>exec C L fi body t d h2 fun e _ _ h3=>EX l k e h3
 |_=>false
noncomputable def ig (E:Env) (f:Nat) (c:Bool):Bool:=match T.get .no (K.of f) E.fn with
 |.no=>false
 |.prim _=>false
 |.fn a=>(match a with
  |none=>false
  |some _=>c)
noncomputable def EN (C:As) (L:Nat) (E:Env) (l:K) (args:List V) (h:Hp) (k:KC):Bool:=
 match blk h l with
 |.loop _ _ f t ps assign body _=>ig E f (CC ps args t fun t0=>
  exec C L (.mk f (some l)) assign t0 .rnd h (ND C L (.mk f (some l)) l body k))
 |_=>false
noncomputable def call (E:Env) (L:Nat) (n:Nat):As:=
 Nat.rec (motive:=fun _=>As) (fun _ _ _ _ _=>false)
  (fun _ C tg args cm h k=>Tgt.rec (motive:=fun _=>Bool) (fun f=>Iw C L E f args cm h k) (fun l=>EN C L E l args h k) tg) n
theorem oB:type_of%(And.intro @Option.bind_eq_bind.{0} (And.intro @Option.pure_def.{0} (And.intro @Option.bind_eq_some_iff.{0,0} @Option.some.injEq.{0}))):=And.intro @Option.bind_eq_bind.{0} (And.intro @Option.pure_def.{0} (And.intro @Option.bind_eq_some_iff.{0,0} @Option.some.injEq.{0}))
abbrev vI (n:Nat):V:=.int .i64 (.ofNat n)
abbrev vF:V:=.bool false
abbrev vE:V:=.str []
noncomputable abbrev tg (n:Nat) (t:T V):V:=T.get und (K.of n) t
theorem tO {p:Prop} (h:p:=by omega):p:=h
theorem eF {p:Prop} (h:¬p:=by omega):p=False:=eq_false h
theorem eT {p:Prop} (h:p:=by omega):p=True:=eq_true h
theorem pM (M:Nat) (h:1≤M:=by omega):∃j,M=j+1:=⟨M-1,by omega⟩
end Go.AJ
namespace Go.AJ
structure Ty where
 un:Nat→Option TypeDesc
 inf:Nat→Option TypeInfo
 plain:Nat→Bool
 exact:Bool
def Ue {α:Type} (p:α→Bool):List α→Bool
 | []=>true
 |x::l=>match p x with
  |true=>Ue p l
  |false=>false
def V.one (v:V):Bool:=match v with
 |.agg _=>false
 |.tup _=>false
 |_=>true
def Jn (f:Value→Option V):List Value→Option (List V)
 | []=>some []
 |v::l=>match f v,Jn f l with
  |some v,some l=>some (v::l)
  |_,_=>none
def MK:Nat→Value→Option V
 |0,_=>none
 |n+1,v=>match v with
  |.int k i=>some (.int k i)
  |.bool b=>some (.bool b)
  |.string s=>some (.str (s.data.toList.map UInt8.toNat))
  |.pointer none=>some .nilp
  |.slice none 0 0=>some .nils
  |.map none=>some .nilm
  |.nilFunc=>some .nilf
  |.nilIface=>some .nili
  |.iface t v=>match MK n v with
   |some v=>some (.ifc t v)
   |none=>none
  |.agg vs=>match Jn (MK n) vs.toList with
   |some l=>if Ue V.one l then some (.agg l) else none
   |none=>none
  |.tuple vs=>match Jn (MK n) vs.toList with
   |some l=>some (.tup l)
   |none=>none
  |_=>none
def cX (x:Operand):Option X:=match x with
 |.tmp t=>some (.t (K.of t))
 |.const v=>match MK 5 v with
  |some v=>some (.c v)
  |none=>none
 |.global _=>none
 |.func f=>some (.c (.fn f [] []))
def cXs:List Operand→Option (List X)
 | []=>some []
 |x::l=>match cX x,cXs l with
  |some x,some l=>some (x::l)
  |_,_=>none
def cXo (x:Option Operand):Option (Option X):=match x with
 |none=>some none
 |some x=>match cX x with
  |some x=>some (some x)
  |none=>none
def Dv (d:TypeDesc):Bool:=match d with
 |.struct _=>true
 |.array _ _=>true
 |_=>false
def Uf (T:Ty) (t:Nat):Option V:=do
 let i←T.inf t;let z←i.zero
 MK 5 z
def Fc (T:Ty) (t:Nat):Option Nat:=match T.inf t with
 |some i=>some i.size
 |none=>none
def Mu (T:Ty) (t:Nat):Option (List V):=do
 let n←Fc T t;match←Uf T t with
 |.agg l=>if l.length=n then some l else none
 |.tup _=>none
 |v=>if n=1 then some [v] else none
def iop:BinOp→Option IOp
 |.add=>some .add|.sub=>some .sub|.mul=>some .mul|.quo=>some .quo|.rem=>some .rem
 |.and=>some .and|.or=>some .or|.xor=>some .xor|.eql=>some .eql|.neq=>some .neq
 |.lss=>some .lss|.leq=>some .leq|.gtr=>some .gtr|.geq=>some .geq|.shl=>some .shl|.shr=>some .shr
 |.andNot=>none
def sop:BinOp→Option SOp
 |.add=>some .add|.eql=>some .eql|.neq=>some .neq
 |.lss=>some .lss|.leq=>some .leq|.gtr=>some .gtr|.geq=>some .geq
 |_=>none
def Hh (d:TypeDesc):Option CK:=match d with
 |.bool=>some .bool
 |.int _=>some .int
 |.string=>some .str
 |_=>none
def CP (T:Ty):Nat→List Field→Option (List CK)
 |_,[]=>some []
 |n,f::l=>match T.un f.type,T.inf f.type,CP T (n+1) l with
  |some d,some i,some r=>match Hh d with
   | some q => if i.size = 1 ∧ f.offset = n ∧ f.name ≠ "_" then some (q :: r) else none
   |none=>none
  |_,_,_=>none
def Hy (x:Operand):Bool:=match x with
 |.const _=>true
 |_=>false
def zJ (T:Ty) (t:Nat) (x y:Operand):Option EK:=match T.un t with
 |some d=>match d with
  |.bool=>some .bool
  |.pointer _=>some .ptr
  |.slice _=>some .sl
  |.map _ _=>some .map
  |.func .. =>some .fn
  |.interface _=>if Hy x||Hy y then some .ifc else none
  |.struct fs=>if T.plain t then (match CP T 0 fs.toList with
   |some l=>some (.cells l)
   |none=>none) else none
  |.array n e=>match T.un e,T.inf e with
   |some d,some i=>match Hh d with
    |some q=>if i.size=1 then some (.cells (List.replicate n q)) else none
    |none=>none
   |_,_=>none
  |_=>none
 |none=>none
def MH (T:Ty) (fields:List Field):List (Nat×Operand)→Option (List (Nat×Nat×X))
 | []=>some []
 |p::l=>match fields[p.1]? with
  |some f=>match Fc T f.type,cX p.2,MH T fields l with
   |some n,some x,some l=>some ((f.offset,n,x)::l)
   |_,_,_=>none
  |none=>none
def Jl (sz:Nat):List (Nat×Operand)→Option (List (Nat×Nat×X))
 | []=>some []
 |p::l=>match cX p.2,Jl sz l with
  |some x,some l=>some ((p.1*sz,sz,x)::l)
  |_,_=>none
def Qe (T:Ty) (e:TypeId):Bool:=match T.un e with
 |some (.int .u8)=>true
 |_=>false
def d6 (T:Ty) (s d:TypeDesc) (x:X):Option AOp:=match s,d with
 |.int _,.int k=>some (.conv k x)
 |.string,.string=>some (.sliceS x none none)
 |.string,.slice e=>if Qe T e then some (.toBytes x T.exact) else none
 |.slice e,.string=>if Qe T e then some (.ofBytes x) else none
 |_,_=>none
def zP (T:Ty) (z:List V):Option (List V):=match T.exact with
 |true=>some z
 |false=>none
def Iz (T:Ty) (t t':TypeId) (s x:X):Option AOp:=match T.un t,T.un t' with
 |some (.slice e),some d=>match T.inf e,Mu T e with
  |some i,some z=>match d with
   |.int _=>some (.appz s x i.size i.bytes z (zP T z))
   |.slice _=>some (.app s x i.size i.bytes (zP T z))
   |.string=>some (.app s x i.size i.bytes (zP T z))
   |_=>none
  |_,_=>none
 |_,_=>none
def Aah (T:Ty) (t:TypeId) (x:X):Option AOp:=match T.un t with
 |some (.array n _)=>some (.mv (.c (.int .i64 (.ofNat n))))
 |some .string=>some (.len .str x)
 |some (.slice _)=>some (.len .sl x)
 |some (.map _ _)=>some (.len .map x)
 |_=>none
def Aak (T:Ty) (t:TypeId) (x:X):Option AOp:=match T.un t with
 |some (.slice _)=>some (.cap x)
 |_=>none
def d0 (T:Ty) (t t':TypeId) (d s:X):Option AOp:=match T.un t,T.un t' with
 |some (.slice e),some (.slice _)=>(match T.inf e with|some i=>some (.copy d s i.size)|none=>none)
 |some (.slice e),some .string=>(match T.inf e with|some i=>some (.copy d s i.size)|none=>none)
 |_,_=>none
def Aaj (T:Ty) (t:TypeId) (x:X):Option AOp:=match T.un t with
 |some (.slice e)=>(match Mu T e with|some z=>some (.clr x z)|none=>none)
 |some (.map _ _)=>some (.clrm x)
 |_=>none
def Eb (T:Ty) (b:Builtin) (ts:List TypeId) (as:List X):Option AOp:=match b,ts,as with
 |.append,[t,t'],[s,x]=>Iz T t t' s x
 |.len,[t],[x]=>Aah T t x
 |.cap,[t],[x]=>Aak T t x
 |.max,_,x::l=>some (.mxn true x l)
 |.min,_,x::l=>some (.mxn false x l)
 |.copy,[t,t'],[d,s]=>d0 T t t' d s
 |.clear,[t],[x]=>Aaj T t x
 |_,_,_=>none
def cOp (T : Ty) (ext : Nat → Bool) (o : Op) : Option AOp := match o with
 | .move x => do pure (.mv (← cX x))
 | .assign x => do pure (.mv (← cX x))
 | .pick c a b => do pure (.pick (← cX c) (← cX a) (← cX b))
 | .load t x => do
  let d ← T.un t
  let n ← Fc T t
  let x ← cX x
  if Dv d then pure (.loadN x n) else pure (.load1 x)
 | .fieldAddr s x f => do
  let .struct fs ← T.un s | none
  let fd ← fs[f]?
  let n ← Fc T fd.type
  let x ← cX x
  if n = 0 then none else pure (.addOff x fd.offset)
 | .binOp op t xo yo _ => do
  let d ← T.un t
  let x ← cX xo
  let y ← cX yo
  match d with
  | .int _ => pure (.ibin (← iop op) x y)
  | .string => pure (.sbin (← sop op) x y)
  | _ => match op with
   | .eql => pure (.eqv false (← zJ T t xo yo) x y)
   | .neq => pure (.eqv true (← zJ T t xo yo) x y)
   | _ => none
 | .box _ x => do pure (.box (← cX x))
 | .alloc e => do pure (.alloc (← Mu T e))
 | .build t ps => do
  let z ← Mu T t
  match ← T.un t with
  | .struct fs => if Ue (fun f => (T.inf f.type).isSome) fs.toList then pure (.mk z (← MH T fs.toList ps.toList)) else none
  | .array _ e => pure (.mk z (← Jl (← Fc T e) ps.toList))
  | _ => none
 | .buildSlice t len ps => do
  let .slice e ← T.un t | none
  let sz ← Fc T e
  let z ← Mu T e
  if len * sz ≤ 65536 then pure (.mkSl (rep len z) (← Jl sz ps.toList) len) else none
 | .unOp op _ x => do
  let x ← cX x
  match op with
  | .not => pure (.not x)
  | .neg => pure (.neg x)
  | _ => none
 | .indexAddr t x i => do
  let x ← cX x
  let i ← cX i
  match ← T.un t with
  | .slice e => pure (.idx x i (← Fc T e))
  | .array n e => pure (.idxA x i (← Fc T e) n)
  | _ => none
 | .store t a x => do pure (.store (← cX a) (← cX x) (← Fc T t))
 | .nilCheck x => do pure (.nilchk (← cX x))
 | .extract x i => do pure (.ext (← cX x) i)
 | .makeFunc fn first captured => do
  let .func f := fn | none
  pure (.mkf f (← cXs first.toList) (← cXs captured.toList))
 | .mapUpdate t m k x => do
  let .map kt _ ← T.un t | none
  let d ← T.un kt
  pure (.mapset (← Hh d) (← cX m) (← cX k) (← cX x))
 | .insert t m k x => do
  let .map kt _ ← T.un t | none
  let d ← T.un kt
  pure (.mapset (← Hh d) (← cX m) (← cX k) (← cX x))
 | .lookup t m k ok => do
  let .map kt e ← T.un t | none
  let d ← T.un kt
  let z ← Uf T e
  pure (.mapget (← Hh d) (← cX m) (← cX k) z ok)
 | .slice t x lo hi mx => do
  let x ← cX x
  let lo ← cXo lo
  let hi ← cXo hi
  let mx ← cXo mx
  match ← T.un t with
  | .slice e => pure (.slice x lo hi mx (← Fc T e))
  | .string => match mx with
   | none => pure (.sliceS x lo hi)
   | some _ => none
  | .array n e => pure (.sliceA x lo hi mx (← Fc T e) n)
  | _ => none
 | .index t x i => do
  let x ← cX x
  let i ← cX i
  match ← T.un t with
  | .string => pure (.idxS x i)
  | .array n e => do
   let d ← T.un e
   pure (.idxG x i (← Fc T e) n (Dv d))
  | _ => none
 | .makeMap _ r => match r with
  | none => some .mkmap
  | some _ => none
 | .convert s d x => do d6 T (← T.un s) (← T.un d) (← cX x)
 | .field t x f => do
  let .struct fs ← T.un t | none
  let fd ← fs[f]?
  let d ← T.un fd.type
  pure (.fld (← cX x) fd.offset (← Fc T fd.type) (Dv d))
 | .makeSlice t l c => do
  let .slice e ← T.un t | none
  let i ← T.inf e
  let z ← Mu T e
  pure (.mkslice (← cX l) (← cX c) z i.bytes)
 | .typeAssert x _ t ok => do
  let d ← T.un t
  let z ← Uf T t
  let x ← cX x
  match d with
  | .interface _ => none
  | _ => pure (.tas x t z ok)
 | .makeInterface t x => do
  let d ← T.un t
  let x ← cX x
  match d with
  | .interface _ => none
  | _ => pure (.mkif t x)
 | .panic x => do pure (.panic (← cX x))
 | .call c => match c.callee with
  | .builtin b => (match b, c.args.toList with
   | .recover, _ => some .recover
   | .panic, [x] => do pure (.panic (← cX x))
   | b, l => do
    let as ← cXs l
    Eb T b c.argTypes.toList as)
  | .value f => do
   let as ← cXs c.args.toList
   match f with
   | .func g => if ext g then (match as with | [x, y] => pure (.cmpStr x y) | _ => none) else pure (.call g as)
   | .tmp t => pure (.callv (.t (K.of t)) as)
   | _ => none
  | .invoke _ _ => none
 | .defer c => match c.callee with
  | .value f => do pure (.defer (← cX f) (← cXs c.args.toList))
  | _ => none
 | .range t x => do
  let d ← T.un t
  let x ← cX x
  match d with
  | .map _ _ => pure (.rng false x)
  | .string => pure (.rng true x)
  | _ => none
 | .next x str => match str with
  | true => do pure (.nxtS (← cX x))
  | false => do pure (.nxt (← cX x))
 | .entry x => do pure (.ent (← cX x))
 | _ => none
def er:AO:={dst:=none,guard:=none,op:=.bad}
def OV (n:Nat) (d:Option Tmp):Option (Option K):=match d with
 |none=>some none
 |some d=>if d<n then some (some (K.of d)) else none
def Ha (n:Nat) (all:Array Oper) (g:Option (Nat×Bool)):Option (Option (K×Bool)):=match g with
 |none=>some none
 |some p=>match (all[p.1]?).bind (·.dst) with
  |some d=>if d<n then some (some (K.of d,p.2)) else none
  |none=>none
def cAO (T:Ty) (ext:Nat→Bool) (n:Nat) (all:Array Oper) (o:Oper):AO:=
 match OV n o.dst,Ha n all o.guard,cOp T ext o.op with
 |some d,some g,some a=>{dst:=d,guard:=g,op:=a}
 |_,_,_=>er
def Us (o:Oper):List Tmp:=o.op.operands.toList.filterMap fun|.tmp t=>some t|_=>none
def Aax (all:Array Oper) (o:Oper):Bool:=match o.op with
 |.assign _=>(match o.dst with
  |some d=>all.toList.any fun o'=>(Us o').contains d
  |none=>false)
 |_=>false
def hvy (b:Bool) (a:AOp):AOp:=match b with
 |false=>a
 |true=>(match a with
  |.mv x=> .mvh x
  |a=>a)
def cAH (T:Ty) (ext:Nat→Bool) (n:Nat) (all:Array Oper) (o:Oper):AO:=
 match OV n o.dst,Ha n all o.guard,cOp T ext o.op with
 |some d,some g,some a=>{dst:=d,guard:=g,op:=hvy (Aax all o) a}
 |_,_,_=>er
inductive Cls where
 |simple|alloc|heavy
 deriving DecidableEq
def Cn (o:AOp):Cls:=match o with
 |.mv _|.pick .. |.load1 _|.loadN .. |.addOff .. |.ibin .. |.sbin .. |.eqv .. |.mk .. |.not _|.neg _|.idx .. |.idxA .. |.nilchk _|.ext ..
 |.mkf .. |.mapget .. |.slice .. |.sliceA .. |.sliceS .. |.idxS .. |.idxG .. |.conv .. |.fld .. |.mkif .. |.len .. |.cap _|.mxn .. |.cmpStr .. => .simple
 |.box _|.alloc _|.mkSl .. |.mkslice .. => .alloc
 |_=> .heavy
def Cp (o:Oper):List Nat:=(o.after.toList.filter (Region.binds .any)).map (·.on)
def O8:List Oper→Nat→List Nat→Option (List Nat)
 | [],_,acc=>some acc
 |o::l,i,acc=>
  if Ue (fun p=>Nat.blt p i) (Cp o) then
   O8 l (i+1) (acc++ [(Cp o).foldl (fun m p=>Nat.lor (Nat.lor m (Nat.pow 2 p)) (acc.getD p 0)) 0])
  else none
def S4 (ops:Array Oper) (o:Oper):List Tmp:=Us o++(match o.guard with
 |some p=>((ops[p.1]?).bind (·.dst)).toList
 |none=> [])
structure Co where
 anc:List Nat
 cls:List Cls
 heavy:List Nat
 deriving Inhabited
def Co.has (p:Co) (i q:Nat):Bool:=Nat.testBit (p.anc.getD i 0) q
def Co.lo (p:Co) (i:Nat):Nat:=go p.heavy 1
where
 go:List Nat→Nat→Nat
  | [],_=>0
  |h::l,k=>let r:=go l (k+1);if r≠0 then r else if p.has i h then k else 0
def Co.hi (p:Co) (i:Nat):Nat:=go p.heavy 0
where
 go:List Nat→Nat→Nat
  | [],k=>k
  |h::l,k=>if p.has h i then k else go l (k+1)
def chain (p:Co):List Nat→Bool
 | []=>true
 |a::l=>match l with
  | []=>true
  |b::_=>p.has b a&&chain p l
def Dm:List (Option Tmp)→Bool
 | []=>true
 |d::l=>match d with
  |none=>Dm l
  |some d=>Ue (fun e=>match e with|none=>true|some e=> !Nat.beq d e) l&&Dm l
def Co.light (p:Co) (i:Nat):Bool:= !(p.cls.getD i .heavy==.heavy)
def qA (ops:Array Oper) (p:Co):Bool:=
 Ue (fun i=>Ue (fun q=>match (ops[q]?).bind (·.dst) with
  |none=>true
  |some d=>match ops[i]? with
   |none=>true
   |some o=> !(S4 ops o).contains d||p.has i q||(p.has q i&&p.light i&&(!p.light q||Nat.blt (p.hi i) (p.lo q)))) (List.range ops.size)) (List.range ops.size)
def zK (cls:List Cls) (aos:List AO):Bool:=
 Ue (fun x:Cls×AO=>match x.1 with|.heavy=>true|_=>x.2.dst.isSome) (cls.zip aos)
def Gy (ops:Array Oper) (aos:List AO) (p:Co):Bool:=
 chain p p.heavy&&Dm (ops.toList.map (·.dst))&&qA ops p&&zK p.cls aos
def fH (ops:Array Oper) (aos:List AO):Option Co:=match O8 ops.toList 0 [] with
 |none=>none
 |some anc=>
  let cls:=aos.map (Cn ·.op)
  some {anc,cls,heavy:=(List.range ops.size).filter fun i=>cls.getD i .heavy==.heavy}
def Pq (ops:Array Oper) (aos:List AO):Option Co:=match fH ops aos with
 |none=>none
 |some p=>if Gy ops aos p then some p else none
def Co.behind (p:Co) (l:List Nat) (x y:Nat):Co:=
 {anc:=p.anc.set y (Nat.lor (Nat.lor (p.anc.getD y 0) (Nat.pow 2 x)) (p.anc.getD x 0)),cls:=p.cls,heavy:=l++ [x,y]}
def Gk (aos:List AO) (i:Nat):AO:=aos.getD i er
def BI (p : Co) (aos : List AO) (n j : Nat) : Fe :=
  { ops := ((List.range n).filter fun i => p.light i && Nat.beq (p.lo i) j).map (Gk aos)
    chk := ((List.range n).filter fun i => p.light i && Nat.ble (p.lo i) j && Nat.ble j (p.hi i)).map (Gk aos)
    heavy := (p.heavy[j]?).map (Gk aos) }
def Pj (p:Co) (aos:List AO) (n:Nat):List Fe:=(List.range (p.heavy.length+1)).map (BI p aos n)
def cd:List Nat→Option (List Nat×Nat×Nat)
 | []=>none
 |a::l=>match l with
  | []=>none
  |b::r=>match r with
   | []=>some ([],a,b)
   |_::_=>match cd l with
    |none=>none
    |some q=>some (a::q.1,q.2)
def JW (o:AO):Option (X×X×Nat):=match o with
 |⟨none,none,.store a x n⟩=>some (a,x,n)
 |_=>none
def HK (p:Co) (n j:Nat):List Nat:=(List.range n).filter fun i=>p.light i&&Nat.beq (p.lo i) j
def NA (p:Co) (n j:Nat):List Nat:=(List.range n).filter fun i=>p.light i&&Nat.ble (p.lo i) j&&Nat.ble j (p.hi i)
def Ac7 (p1 p2:Co) (n m:Nat):Bool:=
 Ue (fun j=>HK p1 n j==HK p2 n j&&NA p1 n j==NA p2 n j) (List.range (m+1))&&
  HK p1 n (m+1)== []&&HK p1 n (m+2)== []&&HK p2 n (m+1)== []&&HK p2 n (m+2)== []
def UT (ops:Array Oper) (aos:List AO):Option (Co×Co×Nat×(X×X×Nat)×(X×X×Nat)):=match fH ops aos with
 |none=>none
 |some p=>match cd p.heavy with
  |none=>none
  |some (l,x,y)=>match JW (Gk aos x),JW (Gk aos y) with
   |some s1,some s2=>if Gy ops aos (p.behind l x y)&&Gy ops aos (p.behind l y x)&&Ac7 (p.behind l x y) (p.behind l y x) ops.size l.length then some (p.behind l x y,p.behind l y x,l.length,s1,s2) else none
   |_,_=>none
def Aag (p1 p2:Co) (aos:List AO) (n m:Nat) (s1 s2:X×X×Nat):wQ:=
  {ops:=(BI p1 aos n m).ops,chk:=(BI p1 aos n m).chk,a1:=s1.1,x1:=s1.2.1,n1:=s1.2.2,a2:=s2.1,x2:=s2.2.1,n2:=s2.2.2,
    c1:=(BI p1 aos n (m+1)).chk,e1:=(BI p1 aos n (m+2)).chk,c2:=(BI p2 aos n (m+1)).chk,e2:=(BI p2 aos n (m+2)).chk}
def Aai (ops:Array Oper) (aos:List AO):Aa:=
 match Pq ops aos with
 |some p=> .draw (Pj p aos ops.size) (ops.toList.filterMap fun o=>o.dst.map K.of)
 |none=>match UT ops aos with
  |some (p1,p2,m,s1,s2)=> .draw2 ((List.range m).map (BI p1 aos ops.size)) (Aag p1 p2 aos ops.size m s1 s2) (ops.toList.filterMap fun o=>o.dst.map K.of)
  |none=> .bad
def FJ (n:Nat):List Tmp→Option (List K)
 | []=>some []
 |p::l=>if p<n then (match FJ n l with
  |some r=>some (K.of p::r)
  |none=>none) else none
def Ca (T:Ty) (ext:Nat→Bool) (n:Nat):Code→Aa
 |.skip=> .skip
 |.label _=> .skip
 |.region _ ops d=>if d then Aai ops (ops.toList.map (cAH T ext n ops)) else .reg (ops.toList.map (cAO T ext n ops))
 |.seq a b=> .seq (Ca T ext n a) (Ca T ext n b)
 |.cond c a b=>match cX c with
  |some c=> .cond c (Ca T ext n a) (Ca T ext n b)
  |none=> .bad
 |.block id c=> .block id (Ca T ext n c)
 |.loop c=> .loop (Ca T ext n c)
 |.rangeFunc f ps a b=>match cX f,FJ n ps.toList with
  |some f,some ps=> .range f ps (Ca T ext n a) (Ca T ext n b)
  |_,_=> .bad
 |.exit id=> .exit id
 |.scope c=>Ca T ext n c
 |.goto _=> .bad
 |.ret=> .ret
 |.refuse _=> .bad
def uZ (T:Ty):List ResultVar→Option (List RV)
 | []=>some []
 |r::l=>match uZ T l with
  |none=>none
  |some l=>match r with
   |.tmp t=>some (.t (K.of t)::l)
   |.cell a t=>match T.un t,Fc T t with
    |some d,some n=>if Dv d then some (.cellN (K.of a) n::l) else some (.cell1 (K.of a)::l)
    |_,_=>none
def cFn (T:Ty) (ext:Nat→Bool) (f:Func):Option AFn:=
 match f.body,uZ T f.results.toList with
 |some b,some r=>some {body:=Ca T ext f.ntmps b,res:=r}
 |_,_=>none
end Go.AJ
namespace Go.AJ
def K.num:K→Nat
 |.h=>1
 |.o k=>2*k.num
 |.i k=>2*k.num+1
theorem K.num_pos (k:K):1≤k.num:=by
 induction k with
 |h=>simp [K.num]
 |o k ih=>simp only[K.num];omega
 |i k ih=>simp only[K.num];omega
theorem K.num_inj:∀{a b:K},a.num=b.num→a=b:=by
 intro a;induction a with
 |h=>
  intro b hb;cases b with
  |h=>rfl
  |o k=>have:=k.num_pos;simp only[K.num] at hb;omega
  |i k=>have:=k.num_pos;simp only[K.num] at hb;omega
 |o a ih=>
  intro b hb;cases b with
  |h=>have:=a.num_pos;simp only[K.num] at hb;omega
  |o k=>simp only[K.num] at hb;rw[ih (by omega:a.num=k.num)]
  |i k=>simp only[K.num] at hb;omega
 |i a ih=>
  intro b hb;cases b with
  |h=>have:=a.num_pos;simp only[K.num] at hb;omega
  |o k=>simp only[K.num] at hb;omega
  |i k=>simp only[K.num] at hb;rw[ih (by omega:a.num=k.num)]
theorem K.num_succ (k:K):k.succ.num=k.num+1:=by
 induction k with
 |h=>rfl
 |o k ih=>simp [K.succ,K.num]
 |i k ih=>simp only[K.succ,K.num,ih];omega
theorem K.num_ofN : ∀ (f n : Nat), n ≤ f → (K.ofN f n).num = n + 1 := by
  intro f
  induction f with
  | zero => intro n h; have : n = 0 := by omega
            subst this; rfl
  | succ f ih =>
    intro n h
    cases n with
    | zero => rfl
    | succ m =>
      simp only [K.ofN]
      have h2 : m / 2 ≤ f := by omega
      split
      · rename_i e
        simp only [K.num, ih _ h2]; omega
      · rename_i e
        simp only [K.num, ih _ h2]; omega
theorem K.num_of (n:Nat):(K.of n).num=n+1:=K.num_ofN n n (Nat.le_refl n)
theorem K.of_inj {a b:Nat} (h:K.of a=K.of b):a=b:=by have:=congrArg K.num h;rw[K.num_of,K.num_of] at this;omega
theorem K.of_zero:K.of 0=.h:=rfl
theorem K.of_succ (n:Nat):K.of (n+1)=(K.of n).succ:=K.num_inj (by rw[K.num_of,K.num_succ,K.num_of])
theorem K.beq_eq:∀{a b:K},K.beq a b=true→a=b:=by
 intro a;induction a with
 |h=>intro b hb;cases b<;>simp_all [K.beq]
 |o a ih=>intro b hb;cases b with
  |o b=>rw[ih (by simpa [K.beq] using hb)]
  |_=>simp [K.beq] at hb
 |i a ih=>intro b hb;cases b with
  |i b=>rw[ih (by simpa [K.beq] using hb)]
  |_=>simp [K.beq] at hb
theorem K.beq_refl (a:K):K.beq a a=true:=by induction a<;>simp_all [K.beq]
theorem K.beq_false {a b:K} (h:K.beq a b=false):a≠b:=fun e=>by subst e;rw[K.beq_refl] at h;cases h
section
variable {α:Type} (d x:α)
def T.ins:K→T α→T α
 |.h,.l=> .n .l x .l
 |.h,.n a _ b=> .n a x b
 |.o k,.l=> .n (T.ins k .l) d .l
 |.o k,.n a v b=> .n (T.ins k a) v b
 |.i k,.l=> .n .l d (T.ins k .l)
 |.i k,.n a v b=> .n a v (T.ins k b)
theorem T.set_eq (k:K):∀(t:T α) (c:T α→Bool),T.set d x k t c=c (T.ins d x k t):=by
 induction k with
 |h=>intro t c;cases t<;>rfl
 |o k ih=>
  intro t c;cases t with
  |l=>exact ih .l _
  |n a v b=>exact ih a _
 |i k ih=>
  intro t c;cases t with
  |l=>exact ih .l _
  |n a v b=>exact ih b _
@[simp] theorem T.get_l (k:K):T.get d k (.l:T α)=d:=by cases k<;>rfl
@[simp] theorem T.get_h (a:T α) (v:α) (b:T α):T.get d .h (.n a v b)=v:=rfl
@[simp] theorem T.get_o (k:K) (a:T α) (v:α) (b:T α):T.get d (.o k) (.n a v b)=T.get d k a:=rfl
@[simp] theorem T.get_i (k:K) (a:T α) (v:α) (b:T α):T.get d (.i k) (.n a v b)=T.get d k b:=rfl
theorem T.get_ins (k k':K) (t:T α):T.get d k' (T.ins d x k t)=if k'=k then x else T.get d k' t:=by
 induction k generalizing k' t with
 |h=>cases t<;>cases k'<;>simp [T.ins]
 |o k ih=>cases t<;>cases k'<;>simp [T.ins,ih]
 |i k ih=>cases t<;>cases k'<;>simp [T.ins,ih]
end
theorem ET:∀(n:Nat) (l:List V) (c:List V→Bool),Et n l c=true→n≤l.length∧c (l.take n)=true:=by
 intro n;induction n with
 |zero=>intro l c h;exact ⟨Nat.zero_le _,by simpa [Et] using h⟩
 |succ n ih=>
  intro l c h;cases l with
  |nil=>simp [Et] at h
  |cons x l=>have:=ih l _ (by simpa [Et] using h);exact ⟨by simp;omega,by simpa using this.2⟩
theorem E7 {α:Type}:∀(n:Nat) (l:List α),Fd n l=l.drop n:=by
 intro n;induction n with
 |zero=>intro l;rfl
 |succ n ih=>intro l;cases l<;>simp [Fd,ih]
theorem Pg {α:Type}:∀(n:Nat) (l:List α),eZ n l=l.take n:=by
 intro n;induction n with
 |zero=>intro l;rfl
 |succ n ih=>intro l;cases l<;>simp [eZ,ih]
def lay (n:Nat) (l vs:List V):List V:=l.take n++vs++l.drop (n+vs.length)
theorem so:∀(vs c:List V) (k:List V→Bool),Hr c vs k=true→vs.length≤c.length∧k (lay 0 c vs)=true:=by
 intro vs;induction vs with
 |nil=>intro c k h;exact ⟨Nat.zero_le _,by simpa [Hr,lay] using h⟩
 |cons v vs ih=>
  intro c k h;cases c with
  |nil=>simp [Hr] at h
  |cons x c=>have:=ih c _ (by simpa [Hr] using h);exact ⟨by simp;omega,by simpa [lay] using this.2⟩
theorem Ev:∀(n:Nat) (c vs:List V) (k:List V→Bool),AN n c vs k=true→n+vs.length≤c.length∧k (lay n c vs)=true:=by
 intro n;induction n with
 |zero=>intro c vs k h;have:=so vs c k (by simpa [AN] using h);exact ⟨by omega,this.2⟩
 |succ n ih=>
  intro c vs k h;cases c with
  |nil=>simp [AN] at h
  |cons x c=>have:=ih c vs _ (by simpa [AN] using h);refine ⟨by simp;omega,?_⟩;have e:n+1+vs.length=(n+vs.length)+1:=tO;simpa [lay,e] using this.2
theorem H0 {α:Type}:∀(l:List α) (n:Nat) (c:α→Bool),nth l n c=true→∃x,l[n]? =some x∧c x=true:=by
 intro l;induction l with
 |nil=>intro n c h;simp [nth] at h
 |cons x l ih=>
  intro n c h;cases n with
  |zero=>exact ⟨x,rfl,by simpa [nth] using h⟩
  |succ n=>simpa using ih n c (by simpa [nth] using h)
theorem CN {α:Type} (l:List α):On l=l.length:=by induction l<;>simp_all [On]
theorem AF (n:Nat) (c:Nat→Bool):Cu n c=c n:=by cases n<;>rfl
theorem F2 (n:Int) (c:Int→Bool):Qh n c=c n:=by cases n<;>simp [Qh,AF]
theorem F1 {α:Type}:∀(l:List α) (n:Nat) (c:Bool),BP l n c=true→l.length=n∧c=true:=by
 intro l;induction l with
 |nil=>intro n c h;cases n<;>simp_all [BP]
 |cons x l ih=>
  intro n c h;cases n with
  |zero=>simp [BP] at h
  |succ n=>have:=ih n c (by simpa [BP] using h);exact ⟨by simp [this.1],this.2⟩
theorem Au {a b:Int}:Aq a b=true↔a=b:=by
 cases a<;>cases b<;>simp [Aq]
 omega
theorem Ec (a b:Int):Aq a b=decide (a=b):=by rw[Bool.eq_iff_iff,Au];simp
theorem Cw (a b:Int):ltI a b=decide (a<b):=by
 cases a<;>cases b<;>simp only[ltI]
 ·rename_i a b;rw[Bool.eq_iff_iff];simp
 ·rename_i a b;rw[Bool.eq_iff_iff];simp;omega
 ·rename_i a b;rw[Bool.eq_iff_iff];simp;omega
 ·rename_i a b;rw[Bool.eq_iff_iff];simp;omega
theorem Cj:∀{a b:List Nat},CR a b=true↔a=b:=by
 intro a;induction a with
 |nil=>intro b;cases b<;>simp [CR]
 |cons x a ih=>
  intro b;cases b with
  |nil=>simp [CR]
  |cons y b=>
   simp only[CR];cases h:Nat.beq x y with
   |true=>simp [ih,Nat.eq_of_beq_eq_true h]
   |false=>simp [Nat.ne_of_beq_eq_false h]
theorem wJ (a b:List Nat):CR a b=decide (a=b):=by rw[Bool.eq_iff_iff,Cj];simp
theorem Dw {α:Type} {p:α→Bool}:∀{l:List α},Ue p l=true↔∀x∈l,p x=true:=by
 intro l;induction l with
 |nil=>simp [Ue]
 |cons x l ih=>simp only[Ue,List.mem_cons,forall_eq_or_imp];cases h:p x<;>simp [ih]
end Go.AJ
namespace Go.AJ
open Go
structure RB where
 blk:Nat
 d:Nat
 x:Nat
 sz:Nat
 fill:Nat
abbrev Ren:=K→Option RB
class BN where
 w0:World
variable [BN]
def Ua (a:Addr) (l:List Value):Prop:=∀j v,l[j]? =some v→BN.w0.cell? (a.add j)=some v
mutual
inductive VR (ρ:Ren):V→Value→Prop
 |int (k:IntKind) (n:Int):VR ρ (.int k n) (.int k n)
 |bool (b:Bool):VR ρ (.bool b) (.bool b)
 |str (l:List Nat) (s:ByteArray) (h:s.data.toList.map UInt8.toNat=l):VR ρ (.str l) (.string s)
 |nilp:VR ρ .nilp (.pointer none)
 |ptr (b:K) (o:Nat) (r:RB) (h:ρ b=some r):VR ρ (.ptr b o) (.pointer (some ⟨r.blk,o+r.d,none⟩))
 |nils:VR ρ .nils (.slice none 0 0)
 |slc (b:K) (o l c:Nat) (r:RB) (h:ρ b=some r):VR ρ (.sl b o l c 0) (.slice (some ⟨r.blk,o+r.d,none⟩) l c)
 |slo (b:K) (o l c p:Nat) (r:RB) (h:ρ b=some r) (hp:r.sz=p+1) (hf:o+c*(p+1)=r.fill):
   VR ρ (.sl b o l c (p+1)) (.slice (some ⟨r.blk,o+r.d,none⟩) l (c+r.x))
 |nilm:VR ρ .nilm (.map none)
 |map (b:K) (r:RB) (h:ρ b=some r):VR ρ (.map b) (.map (some r.blk))
 |fn (f:Nat) (a c:List V) (a' c':List Value) (ha:VL ρ a a') (hc:VL ρ c c'):VR ρ (.fn f a c) (.func (.func f) ⟨a'⟩ ⟨c'⟩)
 |yld (b:K) (r:RB) (h:ρ b=some r):VR ρ (.yld b) (.func (.yield r.blk) #[] #[])
 |nilf:VR ρ .nilf .nilFunc
 |ifc (t:Nat) (v:V) (v':Value) (h:VR ρ v v'):VR ρ (.ifc t v) (.iface t v')
 |nili:VR ρ .nili .nilIface
 |agg (l:List V) (l':List Value) (h:VL ρ l l') (ho:∀v∈l,v.one=true):VR ρ (.agg l) (.agg ⟨l'⟩)
 |tup (l:List V) (l':List Value) (h:VL ρ l l'):VR ρ (.tup l) (.tuple ⟨l'⟩)
 |rp (l:List V) (off:Nat) (l':List Value) (a:Addr) (hr:Ua a l') (h:VL ρ l l') (ho:∀v∈l,v.one=true):VR ρ (.rp l off) (.pointer (some (a.add off)))
 |rsl (l:List V) (off len cap:Nat) (l':List Value) (a:Addr) (hr:Ua a l') (h:VL ρ l l') (ho:∀v∈l,v.one=true):
   VR ρ (.rsl l off len cap) (.slice (some (a.add off)) len cap)
 |esl (a:Addr) (cap:Nat):VR ρ .esl (.slice (some a) 0 cap)
inductive VL (ρ:Ren):List V→List Value→Prop
 |nil:VL ρ [] []
 |cons (v:V) (v':Value) (l:List V) (l':List Value) (h:VR ρ v v') (hl:VL ρ l l'):VL ρ (v::l) (v'::l')
end
theorem VR.mono {ρ ρ':Ren} (hs:∀b r,ρ b=some r→ρ' b=some r) {v:V} {v':Value} (h:VR ρ v v'):VR ρ' v v':=by
 refine VR.rec (ρ:=ρ) (motive_1:=fun v v' _=>VR ρ' v v') (motive_2:=fun l l' _=>VL ρ' l l')
  (fun k n=> .int k n) (fun b=> .bool b) (fun l s h=> .str l s h) .nilp (fun b o r h=> .ptr b o r (hs _ _ h)) .nils (fun b o l c r h=> .slc b o l c r (hs _ _ h))
  (fun b o l c p r h hp hf=> .slo b o l c p r (hs _ _ h) hp hf) .nilm (fun b r h=> .map b r (hs _ _ h)) (fun f a c a' c' _ _ ia ic=> .fn f a c a' c' ia ic)
  (fun b r h=> .yld b r (hs _ _ h)) .nilf (fun t v v' _ ih=> .ifc t v v' ih) .nili (fun l l' _ ho ih=> .agg l l' ih ho) (fun l l' _ ih=> .tup l l' ih)
  (fun l off l' a hr _ ho ih=> .rp l off l' a hr ih ho) (fun l off n c l' a hr _ ho ih=> .rsl l off n c l' a hr ih ho) (fun a c=> .esl a c) .nil
  (fun v v' l l' _ _ i1 i2=> .cons v v' l l' i1 i2) h
theorem VL.mono {ρ ρ':Ren} (hs:∀b r,ρ b=some r→ρ' b=some r) {l:List V} {l':List Value} (h:VL ρ l l'):VL ρ' l l':=by
 induction l generalizing l' with
 |nil=>cases h;exact .nil
 |cons v l ih=>cases h with|cons _ v' _ l' h hl=>exact .cons _ _ _ _ (h.mono hs) (ih hl)
section
variable {ρ:Ren}
theorem VL.length {l:List V} {l':List Value} (h:VL ρ l l'):l.length=l'.length:=by
 induction l generalizing l' with
 |nil=>cases h;rfl
 |cons v l ih=>cases h with|cons _ v' _ l' h hl=>simp [ih hl]
theorem VL.get {l:List V} {l':List Value} (h:VL ρ l l') {i:Nat} {v:V} (hv:l[i]? =some v):∃v',l'[i]? =some v'∧VR ρ v v':=by
 induction l generalizing l' i with
 |nil=>simp at hv
 |cons x l ih=>
  cases h with
  |cons _ x' _ l' h hl=>
   cases i with
   |zero=>simp at hv;subst hv;exact ⟨x',rfl,h⟩
   |succ i=>simpa using ih hl (by simpa using hv)
theorem VL.of_get {l:List V} {l':List Value} (hn:l.length=l'.length) (h:∀(i:Nat) (v:V),l[i]? =some v→∃v',l'[i]? =some v'∧VR ρ v v'):VL ρ l l':=by
 induction l generalizing l' with
 |nil=>cases l' with
  |nil=>exact .nil
  |cons _ _=>simp at hn
 |cons x l ih=>
  cases l' with
  |nil=>simp at hn
  |cons x' l'=>obtain ⟨v',hv,hr⟩:=h 0 x rfl;simp at hv;subst hv;refine .cons _ _ _ _ hr (ih (by simpa using hn) fun i v hv=>?_);simpa using h (i+1) v (by simpa using hv)
theorem VL.append {a b:List V} {a' b':List Value} (ha:VL ρ a a') (hb:VL ρ b b'):VL ρ (a++b) (a'++b'):=by
 induction a generalizing a' with
 |nil=>cases ha;exact hb
 |cons x a ih=>cases ha with|cons _ x' _ a' h hl=>exact .cons _ _ _ _ h (ih hl)
theorem VL.take {l:List V} {l':List Value} (h:VL ρ l l') (n:Nat):VL ρ (l.take n) (l'.take n):=by
 induction l generalizing l' n with
 |nil=>cases h;simp;exact .nil
 |cons x l ih=>
  cases h with
  |cons _ x' _ l' h hl=>
   cases n with
   |zero=>exact .nil
   |succ n=>exact .cons _ _ _ _ h (ih hl n)
theorem VL.drop {l:List V} {l':List Value} (h:VL ρ l l') (n:Nat):VL ρ (l.drop n) (l'.drop n):=by
 induction l generalizing l' n with
 |nil=>cases h;simp;exact .nil
 |cons x l ih=>
  cases h with
  |cons _ x' _ l' h hl=>
   cases n with
   |zero=>exact .cons _ _ _ _ h hl
   |succ n=>exact ih hl n
theorem VL.rep {l:List V} {l':List Value} (h:VL ρ l l') (n:Nat):VL ρ (rep n l) (List.replicate n l').flatten:=by
 induction n with
 |zero=>exact .nil
 |succ n ih=>simpa [AJ.rep,List.replicate_succ] using h.append ih
theorem VR.one {v:V} {v':Value} (h:VR ρ v v'):v.one=v'.oneCell':=by cases h<;>rfl
theorem Gd {v:V} {c:List V→Bool} {v':Value} (h:Ba v c=true) (hr:VR ρ v v'):
  ∃l,c l=true∧VL ρ l v'.cells.toList∧∀x∈l,x.one=true:=by
 cases hr<;>simp only[Ba] at h
 case agg l l' hl ho=>exact ⟨l,h,hl,ho⟩
 case tup=>cases h
 all_goals exact ⟨_,h,.cons _ _ _ _ (by first|exact .int _ _|exact .bool _|(constructor<;>assumption)|constructor) .nil,by simp [V.one]⟩
end
end Go.AJ
namespace Go.AJ
open Go
def nxt (h:Hp):K:=match h with|.mk _ nx=>nx
noncomputable def Hp.upd (h:Hp) (b:K) (x:Blk):Hp:=match h with|.mk t nx=> .mk (T.ins .none x b t) nx
def Hp.bump (h:Hp):Hp:=match h with|.mk t nx=> .mk t nx.succ
theorem AK (h:Hp) (b:K) (x:Blk) (c:Hp→Bool):DD h b x c=c (h.upd b x):=by cases h;simp only[DD,Hp.upd,T.set_eq]
theorem Ar (h:Hp) (x:Blk) (c:K→Hp→Bool):Bw h x c=c (nxt h) (h.upd (nxt h) x).bump:=by cases h;simp only[Bw,Hp.upd,Hp.bump,nxt,T.set_eq]
@[simp] theorem Ap (h:Hp) (b:K) (x:Blk):nxt (h.upd b x)=nxt h:=by cases h;rfl
@[simp] theorem Ay (h:Hp):nxt h.bump=(nxt h).succ:=by cases h;rfl
@[simp] theorem An (h:Hp) (b:K):blk h.bump b=blk h b:=by cases h;rfl
theorem Al (h:Hp) (b b':K) (x:Blk):blk (h.upd b x) b'=if b'=b then x else blk h b':=by cases h;simp only[Hp.upd,blk,T.get_ins]
variable [BN]
inductive MR (ρ:Ren):List ME→List MapEntry→Prop
 |nil:MR ρ [] []
 |cons (k v:V) (k' v':Value) (b:Nat) (l:List ME) (l':List MapEntry) (hk:VR ρ k k') (hv:VR ρ v v') (hl:MR ρ l l'):
   MR ρ (.mk k v b::l) (⟨k',v',b⟩::l')
inductive DR (ρ:Ren):List D→List Deferred→Prop
 |nil:DR ρ [] []
 |coll (b:K) (r:RB) (l:List D) (l':List Deferred) (h:ρ b=some r) (hl:DR ρ l l'):DR ρ (.coll b::l) (⟨.collected r.blk, #[]⟩::l')
 |call (f:Nat) (a:List V) (c a':Array Value) (l:List D) (l':List Deferred) (h:VL ρ a (a'.toList++c.toList)) (hl:DR ρ l l'):
   DR ρ (.call f a::l) (⟨.fn (.func f) c,a'⟩::l')
def StR:LSt→LoopState→Prop
 |.ready,s=>s=.ready
 |.busy,s=>s=.busy
 |.done,s=>s=.done
 |.exhausted,s=>s=.exhausted
def JR:Jmp→Option Code→Prop
 |.none,c=>c=none
 |.ret,c=>c=some .ret
 |.exit id,c=>c=some (.exit id)
structure TR (ρ:Ren) (q:List K) (n:Nat) (t:T V) (a:Array Value):Prop where
 size:n≤a.size
 val:∀i,K.of i∉q→VR ρ (T.get und (K.of i) t) (a.getD i undef)
structure Cx where
 T:Ty
 ext:Nat→Bool
def Add (n:Nat) (ps:List K) (l:List Tmp):Prop:=FJ n l=some ps
def BR (X:Cx) (ρ:Ren) (r:RB):Blk→Obj→Prop
 |.none,_=>True
 |.cells l,o=>∃c t fz,o=.cells c t fz∧l.length=r.fill∧c.size=r.d+r.fill+r.x*r.sz∧(∀i,i<c.size→¬(fz.1≤i∧i<fz.2))∧
   VL ρ l ((c.toList.drop r.d).take r.fill)∧∀v∈l,v.one=true
 |.map es clock,o=>∃es',o=.map es' clock∧MR ρ es es'.toList
 |.loop st j fn t ps a b D,o=>∃L:Loop,∃n,∃rD,o=.loop L∧StR st L.state∧JR j L.pending∧L.fn=fn∧TR ρ [] n t L.tmps∧Add n ps L.params.toList∧
   a=Ca X.T X.ext n L.assign∧b=Ca X.T X.ext n L.body∧ρ D=some rD∧L.defers=rD.blk
 |.dfr ds,o=>∃ds',o=.deferred (some ds')∧DR ρ ds ds'
 |.iter m since seen last,o=>r.d=0∧∃m',o=.mapIter m' since ⟨seen⟩ last∧(match m with|none=>m'=none|some b=>∃q,ρ b=some q∧m'=some q.blk)
 |.iterS s pos,o=>r.d=0∧∃s':ByteArray,o=.stringIter s' pos∧s'.data.toList.map UInt8.toNat=s
structure HR (X:Cx) (ρ:Ren) (h:Hp) (w:World):Prop where
 live:∀b r,blk h b≠.none→ρ b=some r→∃o,w.heap[r.blk]? =some o∧BR X ρ r (blk h b) o
 inj:∀b b' r r',blk h b≠.none→blk h b'≠.none→ρ b=some r→ρ b'=some r'→r.blk=r'.blk→b=b'
 dom:∀b r,ρ b=some r→b.num<(nxt h).num
 free:∀b,(nxt h).num≤b.num→blk h b=.none
 bsz:BN.w0.heap.size≤w.heap.size
 bas:∀i,i<BN.w0.heap.size→w.heap[i]? =BN.w0.heap[i]?
 bhi:∀b r,blk h b≠.none→ρ b=some r→BN.w0.heap.size≤r.blk
structure Ext (ρ:Ren) (h:Hp) (w:World) (ρ':Ren) (h':Hp) (w':World):Prop where
 sub:∀b r,ρ b=some r→ρ' b=some r
 new:∀b r,ρ' b=some r→ρ b=some r∨(nxt h).num≤b.num
 nx:(nxt h).num≤(nxt h').num
 afr:∀b,ρ b=none→b.num<(nxt h).num→blk h' b=blk h b
 size:w.heap.size≤w'.heap.size
 cfr:∀i,i<w.heap.size→(∀b r,blk h b≠.none→ρ b=some r→r.blk≠i)→w'.heap[i]? =w.heap[i]?
 img:∀b r,blk h' b≠.none→ρ' b=some r→(∃b0 r0,blk h b0≠.none∧ρ b0=some r0∧r0.blk=r.blk)∨w.heap.size≤r.blk
 os:w'.os=w.os
 tape:w'.tape=w.tape
 out:w'.output=w.output
theorem Ext.refl (ρ:Ren) (h:Hp) (w:World):Ext ρ h w ρ h w:=
 ⟨fun _ _ e=>e,fun _ _ e=> .inl e,Nat.le_refl _,fun _ _ _=>rfl,Nat.le_refl _,fun _ _ _=>rfl,fun b r hb hr=> .inl ⟨b,r,hb,hr,rfl⟩,rfl,rfl,rfl⟩
theorem Ext.trans {ρ ρ1 ρ2 : Ren} {h h1 h2 : Hp} {w w1 w2 : World} (e : Ext ρ h w ρ1 h1 w1) (f : Ext ρ1 h1 w1 ρ2 h2 w2) : Ext ρ h w ρ2 h2 w2 where
  sub b r hb := f.sub b r (e.sub b r hb)
  new b r hb := by
    rcases f.new b r hb with h' | h'
    · exact e.new b r h'
    · exact .inr (Nat.le_trans e.nx h')
  nx := Nat.le_trans e.nx f.nx
  afr b hb hn := by
    have h1n : ρ1 b = none := by
      cases hr : ρ1 b with
      | none => rfl
      | some r => rcases e.new b r hr with h' | h'
                  · rw [hb] at h'; cases h'
                  · omega
    rw [f.afr b h1n (Nat.lt_of_lt_of_le hn e.nx), e.afr b hb hn]
  size := Nat.le_trans e.size f.size
  cfr i hi hne := by
    rw [f.cfr i (Nat.lt_of_lt_of_le hi e.size) ?_, e.cfr i hi hne]
    intro b r hb hr he
    rcases e.img b r hb hr with ⟨b0, r0, h0, hr0, e0⟩ | hlt
    · exact hne b0 r0 h0 hr0 (e0.trans he)
    · omega
  img b r hb hr := by
    rcases f.img b r hb hr with ⟨b1, r1, h1, hr1, e1⟩ | hlt
    · rcases e.img b1 r1 h1 hr1 with ⟨b0, r0, h0, hr0, e0⟩ | hlt
      · exact .inl ⟨b0, r0, h0, hr0, e0.trans e1⟩
      · exact .inr (by omega)
    · exact .inr (Nat.le_trans e.size hlt)
  os := f.os.trans e.os
  tape := f.tape.trans e.tape
  out := f.out.trans e.out
theorem Ext.drew (ρ:Ren) (h:Hp) (w:World) (n:Nat):Ext ρ h w ρ h {w with drawn:=n}:=
 ⟨fun _ _ e=>e,fun _ _ e=> .inl e,Nat.le_refl _,fun _ _ _=>rfl,Nat.le_refl _,fun _ _ _=>rfl,fun b r hb hr=> .inl ⟨b,r,hb,hr,rfl⟩,rfl,rfl,rfl⟩
theorem HR.drew {X:Cx} {ρ:Ren} {h:Hp} {w:World} (H:HR X ρ h w) (n:Nat):HR X ρ h {w with drawn:=n}:=⟨H.live,H.inj,H.dom,H.free,H.bsz,H.bas,H.bhi⟩
section mono
variable {ρ ρ':Ren} (hs:∀b r,ρ b=some r→ρ' b=some r)
include hs
theorem MR.mono {l:List ME} {l':List MapEntry} (h:MR ρ l l'):MR ρ' l l':=by
 induction h with
 |nil=>exact .nil
 |cons k v k' v' b l l' hk hv _ ih=>exact .cons _ _ _ _ _ _ _ (hk.mono hs) (hv.mono hs) ih
theorem DR.mono {l:List D} {l':List Deferred} (h:DR ρ l l'):DR ρ' l l':=by
 induction h with
 |nil=>exact .nil
 |coll b r l l' h _ ih=>exact .coll _ _ _ _ (hs _ _ h) ih
 |call f a c a' l l' h _ ih=>exact .call _ _ _ _ _ _ (h.mono hs) ih
theorem TR.mono {q:List K} {n:Nat} {t:T V} {a:Array Value} (h:TR ρ q n t a):TR ρ' q n t a:=⟨h.size,fun i hi=>(h.val i hi).mono hs⟩
theorem BR.mono {X:Cx} {r:RB} {b:Blk} {o:Obj} (h:BR X ρ r b o):BR X ρ' r b o:=by
 cases b with
 |none=>trivial
 |cells l=>obtain ⟨c,t,fz,h1,h2,h3,h4,h5,h6⟩:=h;exact ⟨c,t,fz,h1,h2,h3,h4,h5.mono hs,h6⟩
 |map es n=>obtain ⟨es',h1,h2⟩:=h;exact ⟨es',h1,h2.mono hs⟩
 |loop st j f t ps a b D=>obtain ⟨L,n,rD,h1,h2,h3,h4,h5,h6,h7,h8,h9,h10⟩:=h;exact ⟨L,n,rD,h1,h2,h3,h4,h5.mono hs,h6,h7,h8,hs _ _ h9,h10⟩
 |dfr ds=>obtain ⟨ds',h1,h2⟩:=h;exact ⟨ds',h1,h2.mono hs⟩
 |iter m since seen last=>
  obtain ⟨h0,m',h1,h2⟩:=h;refine ⟨h0,m',h1,?_⟩;cases m with
  |none=>exact h2
  |some b=>obtain ⟨q,h3,h4⟩:=h2;exact ⟨q,hs _ _ h3,h4⟩
 |iterS s pos=>exact h
end mono
section steps
variable {X:Cx} {ρ:Ren} {h:Hp} {w:World}
theorem HR.lt (H:HR X ρ h w) {b:K} {r:RB} (hb:blk h b≠.none) (hr:ρ b=some r):r.blk<w.heap.size:=by obtain ⟨o,ho,_⟩:=H.live b r hb hr;exact (Array.getElem?_eq_some_iff.1 ho).1
theorem HR.fresh (H:HR X ρ h w) {b:K} (hb:(nxt h).num≤b.num):ρ b=none:=by
 cases hr:ρ b with
 |none=>rfl
 |some r=>have:=H.dom b r hr;omega
def Ren.add (ρ:Ren) (b:K) (r:RB):Ren:=fun b'=>if b'=b then some r else ρ b'
theorem Ren.add_same (ρ:Ren) (b:K) (r:RB):ρ.add b r b=some r:=by simp [Ren.add]
theorem Ren.add_other (ρ:Ren) {b b':K} (r:RB) (hne:b'≠b):ρ.add b r b'=ρ b':=by simp [Ren.add,hne]
theorem Ren.add_sub {ρ:Ren} {b:K} {r:RB} (hb:ρ b=none):∀b' r',ρ b'=some r'→ρ.add b r b'=some r':=by
 intro b' r' e;by_cases hbb:b'=b
 ·subst hbb;rw[hb] at e;cases e
 ·rw[Ren.add_other _ _ hbb];exact e
theorem HR.newName (H:HR X ρ h w) (x:Blk) (r:RB) (o:Obj) (w':World) (hw:w'=w.alloc o) (hr:r.blk=w.heap.size)
  (hx:BR X (ρ.add (nxt h) r) r x o):
  HR X (ρ.add (nxt h) r) (h.upd (nxt h) x).bump w'∧Ext ρ h w (ρ.add (nxt h) r) (h.upd (nxt h) x).bump w':=by
 subst hw;have hn:ρ (nxt h)=none:=H.fresh (Nat.le_refl _);have hsub:=Ren.add_sub (r:=r) hn;have old:∀i,i<w.heap.size→(w.alloc o).heap[i]? =w.heap[i]? :=fun i hi=>by show (w.heap.push o)[i]? =_;rw[Array.getElem?_push,if_neg (Nat.ne_of_lt hi)]
 have atn:(w.alloc o).heap[w.heap.size]? =some o:=by show (w.heap.push o)[w.heap.size]? =_;rw[Array.getElem?_push,if_pos rfl]
 constructor
 ·refine ⟨?_,?_,?_,?_,Nat.le_trans H.bsz (by simp),fun i hi=>(old i (Nat.lt_of_lt_of_le hi H.bsz)).trans (H.bas i hi),?_⟩
  ·intro b r' hb hr';rw[An,Al] at hb⊢;by_cases e:b=nxt h
   ·subst e;rw[Ren.add_same] at hr';cases hr';simp only[if_true];exact ⟨o,by rw[hr];exact atn,hx⟩
   ·rw[if_neg e] at hb⊢;rw[Ren.add_other _ _ e] at hr';obtain ⟨o',ho',hbr⟩:=H.live b r' hb hr';exact ⟨o',by rw[old _ (H.lt hb hr')];exact ho',hbr.mono hsub⟩
  ·intro b b' r1 r2 hb hb' h1 h2 e;rw[An,Al] at hb hb';by_cases e1:b=nxt h<;>by_cases e2:b'=nxt h
   ·rw[e1,e2]
   ·exfalso;subst e1;rw[Ren.add_same] at h1;cases h1;rw[if_neg e2] at hb';rw[Ren.add_other _ _ e2] at h2;have:=H.lt hb' h2;omega
   ·exfalso;subst e2;rw[Ren.add_same] at h2;cases h2;rw[if_neg e1] at hb;rw[Ren.add_other _ _ e1] at h1;have:=H.lt hb h1;omega
   ·rw[if_neg e1] at hb;rw[if_neg e2] at hb';rw[Ren.add_other _ _ e1] at h1;rw[Ren.add_other _ _ e2] at h2;exact H.inj b b' r1 r2 hb hb' h1 h2 e
  ·intro b r' hr';rw[Ay,Ap,K.num_succ];by_cases e:b=nxt h
   ·subst e;omega
   ·rw[Ren.add_other _ _ e] at hr';have:=H.dom b r' hr';omega
  ·intro b hb;rw[Ay,Ap,K.num_succ] at hb;rw[An,Al,if_neg (fun e=>by subst e;omega)];exact H.free b tO
  ·intro b r' hb hr';rw[An,Al] at hb;by_cases e:b=nxt h
   ·subst e;rw[Ren.add_same] at hr';cases hr';rw[hr];exact H.bsz
   ·rw[if_neg e] at hb;rw[Ren.add_other _ _ e] at hr';exact H.bhi b r' hb hr'
 ·refine ⟨hsub,?_,by rw[Ay,Ap,K.num_succ];omega,?_,by simp,?_,?_,rfl,rfl,rfl⟩
  ·intro b r' hr';by_cases e:b=nxt h
   ·subst e;exact .inr (Nat.le_refl _)
   ·rw[Ren.add_other _ _ e] at hr';exact .inl hr'
  ·intro b _ hlt;rw[An,Al,if_neg (fun e=>by subst e;omega)]
  ·intro i hi _;exact old i hi
  ·intro b r' hb hr';rw[An,Al] at hb;by_cases e:b=nxt h
   ·subst e;rw[Ren.add_same] at hr';cases hr';exact .inr tO
   ·rw[if_neg e] at hb;rw[Ren.add_other _ _ e] at hr';exact .inl ⟨b,r',hb,hr',rfl⟩
theorem HR.turn (H:HR X ρ h w) {b:K} {r:RB} (hb:blk h b≠.none) (hr:ρ b=some r) (x:Blk) (o:Obj) (w':World)
  (hw:w'.heap=w.heap.set! r.blk o) (hos:w'.os=w.os) (ht:w'.tape=w.tape) (hout:w'.output=w.output) (hx:BR X ρ r x o):
  HR X ρ (h.upd b x) w'∧Ext ρ h w ρ (h.upd b x) w':=by
 have hlt:=H.lt hb hr;have other:∀i,i≠r.blk→w'.heap[i]? =w.heap[i]? :=fun i hi=>by rw[hw];simp [Array.set!_eq_setIfInBounds,Array.getElem?_setIfInBounds_ne (Ne.symm hi)]
 have same:w'.heap[r.blk]? =some o:=by rw[hw];simp [Array.set!_eq_setIfInBounds,hlt]
 constructor
 ·refine ⟨?_,?_,?_,?_,by rw[hw];simpa using H.bsz,fun i hi=>(other i (by have:=H.bhi b r hb hr;omega)).trans (H.bas i hi),?_⟩
  ·intro b' r' hb' hr';rw[Al] at hb'⊢;by_cases e:b'=b
   ·subst e;rw[hr] at hr';cases hr';simp only[if_true];exact ⟨o,same,hx⟩
   ·rw[if_neg e] at hb'⊢;obtain ⟨o',ho',hbr⟩:=H.live b' r' hb' hr';refine ⟨o',?_,hbr⟩;rw[other _ (fun e'=>e (H.inj b' b r' r hb' hb hr' hr e'))];exact ho'
  ·intro b1 b2 r1 r2 h1 h2 e1 e2 e;rw[Al] at h1 h2;have g:∀b',(if b'=b then x else blk h b')≠.none→blk h b'≠.none:=fun b' hb'=>by
    by_cases e:b'=b
    ·subst e;exact hb
    ·rwa [if_neg e] at hb'
   exact H.inj b1 b2 r1 r2 (g _ h1) (g _ h2) e1 e2 e
  ·intro b' r' hr';rw[Ap];exact H.dom b' r' hr'
  ·intro b' hb';rw[Ap] at hb';rw[Al,if_neg (fun e=>by subst e;have:=H.dom b' r hr;omega)];exact H.free b' hb'
  ·intro b' r' hb' hr';rw[Al] at hb';by_cases e:b'=b
   ·subst e;exact H.bhi b' r' hb hr'
   ·rw[if_neg e] at hb';exact H.bhi b' r' hb' hr'
 ·refine ⟨fun _ _ e=>e,fun _ _ e=> .inl e,by rw[Ap];exact Nat.le_refl _,?_,by rw[hw];simp,?_,?_,hos,ht,hout⟩
  ·intro b' hb' _;rw[Al,if_neg (fun e=>by subst e;rw[hr] at hb';cases hb')]
  ·intro i _ hne;exact other i (fun e=>hne b r hb hr e.symm)
  ·intro b' r' hb' hr';rw[Al] at hb';by_cases e:b'=b
   ·subst e;exact .inl ⟨b',r',hb,hr',rfl⟩
   ·rw[if_neg e] at hb';exact .inl ⟨b',r',hb',hr',rfl⟩
theorem HR.drop (H:HR X ρ h w) {b:K} {r:RB} (hr:ρ b=some r):HR X ρ (h.upd b .none) w∧Ext ρ h w ρ (h.upd b .none) w:=by
 have g:∀b',blk (h.upd b .none) b'≠.none→b'≠b∧blk h b'≠.none:=fun b' hb'=>by
  rw[Al] at hb';by_cases e:b'=b
  ·simp [e] at hb'
  ·rw[if_neg e] at hb';exact ⟨e,hb'⟩
 have gq:∀b',b'≠b→blk (h.upd b .none) b'=blk h b':=fun b' e=>by rw[Al,if_neg e]
 constructor
 ·refine ⟨fun b' r' hb' hr'=>?_,fun b1 b2 r1 r2 h1 h2 e1 e2 e=>H.inj b1 b2 r1 r2 (g _ h1).2 (g _ h2).2 e1 e2 e,fun b' r' hr'=>by rw[Ap];exact H.dom b' r' hr',fun b' hb'=>?_,H.bsz,H.bas,fun b' r' hb' hr'=>H.bhi b' r' (g _ hb').2 hr'⟩
  ·obtain ⟨hne,hb⟩:=g b' hb';rw[gq _ hne];exact H.live b' r' hb hr'
  ·rw[Ap] at hb';rw[gq _ (fun e=>by subst e;have:=H.dom b' r hr;omega)];exact H.free b' hb'
 ·exact ⟨fun _ _ e=>e,fun _ _ e=> .inl e,by rw[Ap];exact Nat.le_refl _,fun b' hb' _=>gq _ (fun e=>by subst e;rw[hr] at hb';cases hb'),Nat.le_refl _,fun _ _ _=>rfl,
   fun b' r' hb' hr'=> .inl ⟨b',r',(g _ hb').2,hr',rfl⟩,rfl,rfl,rfl⟩
theorem HR.cells (H:HR X ρ h w) {b:K} {l:List V} {r:RB} (hb:blk h b=.cells l) (hr:ρ b=some r):
  ∃c t fz,w.heap[r.blk]? =some (.cells c t fz)∧l.length=r.fill∧c.size=r.d+r.fill+r.x*r.sz∧(∀i,i<c.size→¬(fz.1≤i∧i<fz.2))∧
   VL ρ l ((c.toList.drop r.d).take r.fill)∧∀v∈l,v.one=true:=by
 obtain ⟨o,ho,hbr⟩:=H.live b r (by rw[hb];simp) hr;rw[hb] at hbr;obtain ⟨c,t,fz,h1,h2⟩:=hbr;exact ⟨c,t,fz,by rw[ho,h1],h2⟩
theorem BQ {h:Hp} {b:K} {c:List V→Bool} (e:cellsOf h b c=true):∃l,blk h b=.cells l∧c l=true:=by
 unfold cellsOf at e;split at e
 ·rename_i l hb;exact ⟨l,hb,e⟩
 ·cases e
theorem HR.cell (H:HR X ρ h w) {b:K} {l:List V} {r:RB} (hb:blk h b=.cells l) (hr:ρ b=some r) {i:Nat} {v:V} (hv:l[i]? =some v):
  ∃v',w.cell? ⟨r.blk,i+r.d,none⟩=some v'∧VR ρ v v':=by
 obtain ⟨c,t,fz,hw,hl,hs,_,hvl,_⟩:=H.cells hb hr;obtain ⟨v',hv',hvr⟩:=hvl.get hv;refine ⟨v',?_,hvr⟩;have hi:i<r.fill:=by have:=(List.getElem?_eq_some_iff.1 hv).1;omega
 rw[List.getElem?_take_of_lt hi,List.getElem?_drop] at hv';simp [World.cell?,hw,Nat.add_comm i r.d];simpa using hv'
theorem HR.base (H:HR X ρ h w) {a:Addr} {l:List Value} (hr:Ua a l) {i:Nat} {v:Value} (hv:l[i]? =some v):w.cell? (a.add i)=some v:=by
 have h1:=hr i v hv;have hb:(a.add i).block<BN.w0.heap.size:=by
  rcases Nat.lt_or_ge (a.add i).block BN.w0.heap.size with h|h
  ·exact h
  ·simp [World.cell?,Array.getElem?_eq_none h] at h1
 rw[←h1];simp only[World.cell?,H.bas _ hb]
theorem Addr.add_two (a:Addr) (m n:Nat):(a.add m).add n=a.add (m+n):=by
 unfold Addr.add;by_cases h1:m=0
 ·simp [h1]
 ·by_cases h2:n=0
  ·simp [h1,h2]
  ·have:m+n≠0:=tO;simp [h1,h2,Nat.add_assoc]
end steps
end Go.AJ
namespace Go.AJ
open Go
variable [BN]
structure TyOK (P:Program) (X:Cx):Prop where
 un:∀t d,X.T.un t=some d→P.underlying t=some d
 inf:∀t i,X.T.inf t=some i→P.info? t=some i
section
variable {P:Program} {X:Cx} {ρ:Ren} {h:Hp} {w:World}
theorem Dh {t:Nat} {d:TypeDesc} (hu:P.underlying t=some d) (w:World):(isAgg t).run P w=.ok (Dv d) w:=by unfold Go.isAgg;simp only[Sem.run_bind,run_underlying hu,Result.andThen_ok];cases d<;>rfl
theorem AD {t:Nat} {i:TypeInfo} (hi:P.info? t=some i) (w:World):(sizeOf t).run P w=.ok i.size w:=by simp [Go.sizeOf,typeInfo,hi]
theorem BJ {t:Nat} {i:TypeInfo} (hi:P.info? t=some i) (w:World):(typeInfo t).run P w=.ok i w:=by simp [typeInfo,hi]
theorem AQ {t:Nat} {i:TypeInfo} {z:Value} (hi:P.info? t=some i) (hz:i.zero=some z) (w:World):(zeroValue t).run P w=.ok z w:=by simp [zeroValue,typeInfo,hi,hz]
theorem FT {a:Addr} {v:Value} (hv:w.cell? a=some v):(load a).run P w=.ok v w:=by simp [hv]
theorem Gv (a:Addr) (ha:a.spot=none):∀(n i:Nat) (acc:Array Value) (l:List Value),l.length=n→(∀j v,l[j]? =some v→w.cell? ⟨a.block,a.off+(i+j),none⟩=some v)→
  (loadCellsFrom a i n acc).run P w=.ok (acc++⟨l⟩) w:=by
 intro n;induction n with
 |zero=>intro i acc l hl _;have:l= []:=List.eq_nil_of_length_eq_zero hl;subst this;simp [loadCellsFrom]
 |succ n ih=>
  intro i acc l hl hc;cases l with
  |nil=>simp at hl
  |cons v l=>
   have h0:=hc 0 v rfl;have hadd:a.add i=⟨a.block,a.off+i,none⟩:=by
    cases a with
    |mk b o s=>simp only at ha;subst ha;exact Addr.add_lit b o i
   simp only[loadCellsFrom,Sem.run_bind,hadd];rw[FT (by simpa using h0)];simp only[Result.andThen_ok];rw[ih (i+1) (acc.push v) l (by simpa using hl) (fun j u hu=>by have:=hc (j+1) u (by simpa using hu);rw[show a.off+(i+1+j)=a.off+(i+(j+1)) by omega];exact this)];congr 1;apply Array.ext';simp
theorem J0 (b o:Nat) (l:List Value) (hc:∀j v,l[j]? =some v→w.cell? ⟨b,o+j,none⟩=some v):
  (loadCells ⟨b,o,none⟩ l.length).run P w=.ok ⟨l⟩ w:=by
 unfold loadCells;rw[Gv ⟨b,o,none⟩ rfl l.length 0 #[] l rfl (fun j v hv=>by simpa using hc j v hv)];congr 1;apply Array.ext';simp
theorem FU (a:Addr):∀(n i:Nat) (acc:Array Value) (l:List Value),l.length=n→(∀j v,l[j]? =some v→w.cell? (a.add (i+j))=some v)→
  (loadCellsFrom a i n acc).run P w=.ok (acc++⟨l⟩) w:=by
 intro n;induction n with
 |zero=>intro i acc l hl _;have:l= []:=List.eq_nil_of_length_eq_zero hl;subst this;simp [loadCellsFrom]
 |succ n ih=>
  intro i acc l hl hc;cases l with
  |nil=>simp at hl
  |cons v l=>have h0:=hc 0 v rfl;simp only[loadCellsFrom,Sem.run_bind];rw[FT (by simpa using h0)];simp only[Result.andThen_ok];rw[ih (i+1) (acc.push v) l (by simpa using hl) (fun j u hu=>by have:=hc (j+1) u (by simpa using hu);rw[show i+1+j=i+(j+1) by omega];exact this)];congr 1;apply Array.ext';simp
theorem Ff (a:Addr) (l:List Value) (hc:∀j v,l[j]? =some v→w.cell? (a.add j)=some v):(loadCells a l.length).run P w=.ok ⟨l⟩ w:=by unfold loadCells;rw[FU a l.length 0 #[] l rfl (fun j v hv=>by simpa using hc j v hv)];congr 1;apply Array.ext';simp
theorem MM {v:V} {v':Value} {c:KV} {t:Nat} {d:TypeDesc} (H:HR X ρ h w) (hu:P.underlying t=some d) (hd:Dv d=false) (hv:VR ρ v v')
  (e:BU v h c=true):∃x x',c x h=true∧(Instr.loadAt t v').run P w=.ok x' w∧VR ρ x x':=by
 cases hv with
 |ptr b o r hr=>obtain ⟨l,hb,e⟩:=BQ e;obtain ⟨x,hx,hc⟩:=H0 _ _ _ e;obtain ⟨x',hx',hvr⟩:=H.cell hb hr hx;refine ⟨x,x',hc,?_,hvr⟩;simp [Instr.loadAt,Instr.sureAddr,loadVar,Dh hu,hd,hx']
 |rp l off l' a hr hl ho=>obtain ⟨x,hx,hc⟩:=H0 _ _ _ (by simpa only[BU] using e);obtain ⟨x',hx',hvr⟩:=hl.get hx;refine ⟨x,x',hc,?_,hvr⟩;simp [Instr.loadAt,Instr.sureAddr,loadVar,Dh hu,hd,H.base hr hx']
 |_=>simp [BU] at e
theorem ML {v:V} {v':Value} {c:KV} {t:Nat} {d:TypeDesc} {i:TypeInfo} (H:HR X ρ h w) (hu:P.underlying t=some d) (hd:Dv d=true) (hi:P.info? t=some i)
  (hv:VR ρ v v') (e:CV v i.size h c=true):∃x x',c x h=true∧(Instr.loadAt t v').run P w=.ok x' w∧VR ρ x x':=by
 cases hv with
 |ptr b o r hr=>
  simp only[CV] at e;have key:∀l':List Value,l'.length=i.size→(∀j v,l'[j]? =some v→w.cell? ⟨r.blk,o+r.d+j,none⟩=some v)→
    (Instr.loadAt t (.pointer (some ⟨r.blk,o+r.d,none⟩))).run P w=.ok (.agg ⟨l'⟩) w:=fun l' hl hc=>by
   have:=J0 (P:=P) r.blk (o+r.d) l' hc;rw[hl] at this;simp [Instr.loadAt,Instr.sureAddr,loadVar,Dh hu,hd,AD hi,this]
  cases hn:i.size with
  |zero=>rw[hn] at e;exact ⟨.agg [],.agg ⟨[]⟩,e,key [] (by simp [hn]) (by simp),.agg [] [] .nil (by simp)⟩
  |succ n=>
   rw[hn] at e;obtain ⟨l,hb,e⟩:=BQ e;obtain ⟨hle,hc⟩:=ET _ _ _ e;rw[E7] at hle hc;obtain ⟨c0,t0,fz,hw,hl,hs,_,hvl,ho⟩:=H.cells hb hr;have hlen:o+(n+1)≤l.length:=by rw[List.length_drop] at hle;omega
   refine ⟨_,.agg ⟨((c0.toList.drop r.d).take r.fill|>.drop o|>.take (n+1))⟩,hc,key _ ?_ ?_,.agg _ _ ((hvl.drop o).take (n+1)) ?_⟩
   ·rw[hn];have:=hvl.length;simp only[List.length_take,List.length_drop] at this⊢;omega
   ·intro j v hj;have hj':=(List.getElem?_eq_some_iff.1 hj).1;have hjn:j<n+1:=by rw[List.length_take] at hj';omega
    rw[List.getElem?_take_of_lt hjn,List.getElem?_drop,List.getElem?_take_of_lt tO,List.getElem?_drop] at hj;simp only[World.cell?,hw,Option.isSome_none,Bool.false_eq_true,if_false];rw[show o+r.d+j=r.d+(o+j) by omega];simpa using hj
   ·intro v hv;exact ho v (List.mem_of_mem_drop (List.mem_of_mem_take hv))
 |rp l off l' a hr hl ho=>
  simp only[CV] at e;obtain ⟨hle,hc⟩:=ET _ _ _ e;rw[E7] at hle hc;have hll:=hl.length;have hrun:=Ff (P:=P) (w:=w) (a.add off) ((l'.drop off).take i.size) (fun j v hj=>by
   have hjn:j<i.size:=by have:=(List.getElem?_eq_some_iff.1 hj).1;rw[List.length_take] at this;omega
   rw[List.getElem?_take_of_lt hjn,List.getElem?_drop] at hj;rw[Addr.add_two];exact H.base hr hj)
  have hlen:((l'.drop off).take i.size).length=i.size:=by rw[List.length_drop] at hle;simp only[List.length_take,List.length_drop];omega
  rw[hlen] at hrun;refine ⟨_,.agg ⟨(l'.drop off).take i.size⟩,hc,?_,.agg _ _ ((hl.drop off).take _) (fun v hv=>ho v (List.mem_of_mem_drop (List.mem_of_mem_take hv)))⟩;simp [Instr.loadAt,Instr.sureAddr,loadVar,Dh hu,hd,AD hi,hrun]
 |_=>simp [CV] at e
theorem RO {v:V} {v':Value} {c:KV} {s f:Nat} {fs:Array Field} {fd:Field} {i:TypeInfo} (hu:P.underlying s=some (.struct fs)) (hf:fs[f]? =some fd)
  (hi:P.info? fd.type=some i) (hn:i.size≠0) (hv:VR ρ v v') (e:CL v fd.offset h c=true):
  ∃x x',c x h=true∧(Instr.fieldAt s v' f).run P w=.ok x' w∧VR ρ x x':=by
 cases hv with
 |ptr b o r hr=>simp only[CL,AF] at e;refine ⟨_,_,e,?_,.ptr b (o+fd.offset) r hr⟩;simp [Instr.fieldAt,run_underlying hu,hf,Instr.sureAddr,fieldPlace,AD hi,hn,Addr.add_lit];omega
 |rp l off l' a hr hl ho=>simp only[CL,AF] at e;refine ⟨_,_,e,?_,.rp l (off+fd.offset) l' a hr hl ho⟩;simp [Instr.fieldAt,run_underlying hu,hf,Instr.sureAddr,fieldPlace,AD hi,hn,Addr.add_two]
 |_=>simp [CL] at e
theorem C8 {b:Bool} {h:Hp} {c:KV} (e:mkB b h c=true):c (.bool b) h=true:=by cases b<;>simpa [mkB] using e
theorem fU {x a b:V} {x' a' b':Value} {c:KV} (hx:VR ρ x x') (ha:VR ρ a a') (hb:VR ρ b b') (e:IX x a b h c=true):
  ∃q v v',c v h=true∧x'=.bool q∧v'=(if q then a' else b')∧VR ρ v v':=by
 cases hx with
 |bool q=>
  cases q with
  |true=>exact ⟨true,a,a',by simpa [IX] using e,rfl,rfl,ha⟩
  |false=>exact ⟨false,b,b',by simpa [IX] using e,rfl,rfl,hb⟩
 |_=>simp [IX] at e
theorem DP {n:Int} (h0: -9223372036854775808≤n) (h1:n≤9223372036854775807):IntKind.i64.wrap n=n:=by simp [IntKind.wrap,IntKind.bits,IntKind.signed];split<;>omega
theorem eU (k:IntKind) (n:Int):Am k n=k.wrap n:=by
 cases k<;>simp only[Am]
 ·cases n with
  |ofNat m=>
   simp only;split
   ·rename_i hm;have:=Nat.le_of_ble_eq_true hm;rw[DP (by simp only[Int.ofNat_eq_natCast];omega) (by simp only[Int.ofNat_eq_natCast];omega)]
   ·rfl
  |negSucc m=>
   simp only;split
   ·rename_i hm;have:=Nat.le_of_ble_eq_true hm;rw[DP tO tO]
   ·rfl
 ·cases n with
  |ofNat m=>simp [IntKind.wrap,IntKind.bits,IntKind.signed]
  |negSucc m=>rfl
theorem Fj {k:IntKind} {n:Int} {h:Hp} {c:KV} (e:mkI k n h c=true):c (.int k (k.wrap n)) h=true:=by simp only[mkI,F2,eU] at e;exact e
theorem Be {a b:IntKind} {c:Bool} (e:BO a b c=true):a=b∧c=true:=by cases a<;>cases b<;>simp_all [BO]
end
end Go.AJ
namespace Go.AJ
open Go
variable [BN]
section
variable {P:Program} {X:Cx} {ρ:Ren} {h:Hp} {w:World}
theorem Bh (n m:Nat):(BitVec.ofInt n (m:Int)).toNat=m%2 ^ n:=by rw[BitVec.ofInt_natCast,BitVec.toNat_ofNat]
theorem jZ (op:BinOp) (f:Nat→Nat→Nat) (hf:(op=.and∧f=Nat.land)∨(op=.or∧f=Nat.lor)∨(op=.xor∧f=Nat.xor)) (x y:Nat):
  bits op .u64 (x:Int) (y:Int)=IntKind.u64.wrap ((f (x%18446744073709551616) (y%18446744073709551616):Nat):Int):=by
 rcases hf with ⟨rfl,rfl⟩|⟨rfl,rfl⟩|⟨rfl,rfl⟩
 ·show IntKind.u64.wrap ((BitVec.ofInt 64 (x:Int)&&&BitVec.ofInt 64 (y:Int)).toNat:Int)=_;rw[BitVec.toNat_and,Bh,Bh];rfl
 ·show IntKind.u64.wrap ((BitVec.ofInt 64 (x:Int)|||BitVec.ofInt 64 (y:Int)).toNat:Int)=_;rw[BitVec.toNat_or,Bh,Bh];rfl
 ·show IntKind.u64.wrap ((BitVec.ofInt 64 (x:Int) ^^^ BitVec.ofInt 64 (y:Int)).toNat:Int)=_;rw[BitVec.toNat_xor,Bh,Bh];rfl
theorem j5 (op:BinOp) (f:Nat→Nat→Nat) (hf:(op=.and∧f=Nat.land)∨(op=.or∧f=Nat.lor)∨(op=.xor∧f=Nat.xor)) (x y:Nat) (hx:x≤9223372036854775807) (hy:y≤9223372036854775807):
  bits op .i64 (x:Int) (y:Int)=IntKind.i64.wrap ((f x y:Nat):Int):=by
 have ex:x%2 ^ 64=x:=Nat.mod_eq_of_lt tO;have ey:y%2 ^ 64=y:=Nat.mod_eq_of_lt tO;rcases hf with ⟨rfl,rfl⟩|⟨rfl,rfl⟩|⟨rfl,rfl⟩
 ·show IntKind.i64.wrap ((BitVec.ofInt 64 (x:Int)&&&BitVec.ofInt 64 (y:Int)).toNat:Int)=_;rw[BitVec.toNat_and,Bh,Bh,ex,ey];rfl
 ·show IntKind.i64.wrap ((BitVec.ofInt 64 (x:Int)|||BitVec.ofInt 64 (y:Int)).toNat:Int)=_;rw[BitVec.toNat_or,Bh,Bh,ex,ey];rfl
 ·show IntKind.i64.wrap ((BitVec.ofInt 64 (x:Int) ^^^ BitVec.ofInt 64 (y:Int)).toNat:Int)=_;rw[BitVec.toNat_xor,Bh,Bh,ex,ey];rfl
theorem E6 {f:Nat→Nat→Nat} {op:BinOp} {k:IntKind} {a b:Int} {c:KV} (hf:(op=.and∧f=Nat.land)∨(op=.or∧f=Nat.lor)∨(op=.xor∧f=Nat.xor))
  (e:KA f k a b h c=true):c (.int k (bits op k a b)) h=true:=by
 cases a with
 |negSucc x=>simp [KA] at e
 |ofNat x=>
  cases b with
  |negSucc y=>simp [KA] at e
  |ofNat y=>
   simp only[KA] at e;cases k<;>simp only[Bool.false_eq_true] at e
   ·split at e
    ·rename_i hx;split at e
     ·rename_i hy;have:=Fj e;rw[Int.ofNat_eq_natCast,Int.ofNat_eq_natCast,j5 op f hf x y (Nat.le_of_ble_eq_true hx) (Nat.le_of_ble_eq_true hy)];exact this
     ·cases e
    ·cases e
   ·have:=Fj e;rw[Int.ofNat_eq_natCast,Int.ofNat_eq_natCast,jZ op f hf x y];exact this
theorem gc {op:BinOp} {iop':IOp} {x y:V} {x' y':Value} {c:KV} (t:Nat) (ho:iop op=some iop') (hx:VR ρ x x') (hy:VR ρ y y')
  (e:AU iop' x y h c=true):∃z z',c z h=true∧(binOp op t x' y').run P w=.ok z' w∧VR ρ z z'∧∃k n,x'=.int k n:=by
 cases hx with
 |int k a=>
  cases hy with
  |int k' b=>
   simp only[AU] at e;have hd:∀{p:Bool},C7 iop' k k' a b h c=BO k k' p→k=k'∧p=true:=fun q=>Be (by rw[←q];exact e);cases op<;>simp only[iop,Option.some.injEq,reduceCtorEq] at ho<;>subst ho<;>simp only[C7] at e
   ·(replace e:=Be e);obtain ⟨rfl,e⟩:=e
    exact ⟨_,_,Fj e,by rw[binOp_add];rfl,.int _ _,_,_,rfl⟩
   ·(replace e:=Be e);obtain ⟨rfl,e⟩:=e
    exact ⟨_,_,Fj e,by rw[binOp_sub];rfl,.int _ _,_,_,rfl⟩
   ·(replace e:=Be e);obtain ⟨rfl,e⟩:=e
    exact ⟨_,_,Fj e,by rw[binOp_mul];rfl,.int _ _,_,_,rfl⟩
   ·split at e
    ·cases e
    ·rename_i hz
     (replace e:=Be e);obtain ⟨rfl,e⟩:=e
     have hb:b≠0:=fun hb=>by rw[Au.2 hb] at hz;cases hz
     exact ⟨_,_,Fj e,by rw[binOp_quo];simp [Op.intDiv,hb],.int _ _,_,_,rfl⟩
   ·split at e
    ·cases e
    ·rename_i hz
     (replace e:=Be e);obtain ⟨rfl,e⟩:=e
     rw[F2] at e;have hb:b≠0:=fun hb=>by rw[Au.2 hb] at hz;cases hz
     exact ⟨_,_,e,by rw[binOp_rem];simp [Op.intDiv,hb],.int _ _,_,_,rfl⟩
   ·(replace e:=Be e);obtain ⟨rfl,e⟩:=e
    exact ⟨_,_,E6 (op:=.and) (.inl ⟨rfl,rfl⟩) e,by rw[binOp_and,intBits_and];rfl,.int _ _,_,_,rfl⟩
   ·(replace e:=Be e);obtain ⟨rfl,e⟩:=e
    exact ⟨_,_,E6 (op:=.or) (.inr (.inl ⟨rfl,rfl⟩)) e,by rw[binOp_or,intBits_or];rfl,.int _ _,_,_,rfl⟩
   ·(replace e:=Be e);obtain ⟨rfl,e⟩:=e
    exact ⟨_,_,E6 (op:=.xor) (.inr (.inr ⟨rfl,rfl⟩)) e,by rw[binOp_xor,intBits_xor];rfl,.int _ _,_,_,rfl⟩
   ·cases b with
    |negSucc y=>simp [zb] at e
    |ofNat y=>refine ⟨_,_,Fj (by simpa only[zb] using e),?_,.int _ _,_,_,rfl⟩;rw[binOp_shl];simp only[Op.shift,Int.ofNat_eq_natCast,Int.toNat_natCast];rw[if_neg tO];simp only[Sem.run_pure,Int.natCast_pow,Int.mul_def,Nat.pow_eq];rfl
   ·cases a with
    |negSucc x=>simp [wS] at e
    |ofNat x=>
     cases b with
     |negSucc y=>simp [wS] at e
     |ofNat y=>simp only[wS,AF] at e;refine ⟨_,_,e,?_,.int _ _,_,_,rfl⟩;rw[binOp_shr];simp only[Op.shift,Int.ofNat_eq_natCast,Int.toNat_natCast];rw[if_neg tO];simp only[Sem.run_pure];congr 2;rw[Int.fdiv_eq_ediv_of_nonneg _ (Int.pow_nonneg (by decide))];rw[show ((2:Int) ^ min y k.bits)=((2 ^ min y k.bits:Nat):Int) by simp];exact (Int.natCast_ediv x _).symm
   ·(replace e:=Be e);obtain ⟨rfl,e⟩:=e
    exact ⟨_,_,C8 e,by rw[binOp_eql,Ec];rfl,.bool _,_,_,rfl⟩
   ·(replace e:=Be e);obtain ⟨rfl,e⟩:=e
    exact ⟨_,_,C8 e,by rw[binOp_neq,Ec];rfl,.bool _,_,_,rfl⟩
   ·(replace e:=Be e);obtain ⟨rfl,e⟩:=e
    exact ⟨_,_,C8 e,by rw[binOp_lss,Cw];rfl,.bool _,_,_,rfl⟩
   ·(replace e:=Be e);obtain ⟨rfl,e⟩:=e
    refine ⟨_,_,C8 e,?_,.bool _,_,_,rfl⟩;rw[binOp_leq,Cw];have:(!decide (b<a))=decide (a≤b):=by rw[Bool.eq_iff_iff];simp
    rw[this];rfl
   ·(replace e:=Be e);obtain ⟨rfl,e⟩:=e
    exact ⟨_,_,C8 e,by rw[binOp_gtr,Cw];rfl,.bool _,_,_,rfl⟩
   ·(replace e:=Be e);obtain ⟨rfl,e⟩:=e
    refine ⟨_,_,C8 e,?_,.bool _,_,_,rfl⟩;rw[binOp_geq,Cw];have:(!decide (a<b))=decide (a≥b):=by rw[Bool.eq_iff_iff];simp
    rw[this];rfl
  |_=>simp [AU] at e
 |_=>simp [AU] at e
def Db (s:ByteArray):List Nat:=s.data.toList.map UInt8.toNat
theorem toNat_inj:∀{a b:List UInt8},a.map UInt8.toNat=b.map UInt8.toNat→a=b:=by
 intro a;induction a with
 |nil=>intro b h;cases b<;>simp_all
 |cons x a ih=>
  intro b h;cases b with
  |nil=>simp at h
  |cons y b=>simp only[List.map_cons,List.cons.injEq] at h;rw[ih h.2,UInt8.toNat_inj.1 h.1]
theorem E0 (s t:ByteArray):CR (Db s) (Db t)=(s.toList==t.toList):=by rw[ByteArray.toList_eq,ByteArray.toList_eq,wJ,Bool.eq_iff_iff];simp only[decide_eq_true_eq,beq_iff_eq];exact ⟨fun e=>toNat_inj e,fun e=>by simp only[Db,e]⟩
theorem bU:∀(a b:List UInt8),ltL (a.map UInt8.toNat) (b.map UInt8.toNat)=Op.bytesLess a b:=by
 intro a;induction a with
 |nil=>intro b;cases b<;>simp [ltL,Op.bytesLess]
 |cons x a ih=>
  intro b;cases b with
  |nil=>simp [ltL,Op.bytesLess]
  |cons y b=>
   simp only[List.map_cons,ltL,Op.bytesLess,ih];cases h1:Nat.blt x.toNat y.toNat with
   |true=>
    have:x<y:=by rw[UInt8.lt_iff_toNat_lt];exact Nat.blt_eq▸h1
    simp [this]
   |false=>
    have h1':¬x<y:=by rw[UInt8.lt_iff_toNat_lt];intro hlt;rw[Nat.blt_eq.mpr hlt] at h1;cases h1
    cases h2:Nat.beq x.toNat y.toNat with
    |true=>have:x=y:=UInt8.toNat_inj.1 (Nat.eq_of_beq_eq_true h2);subst this;simp [h1']
    |false=>
     have:x≠y:=fun e=>by subst e;simp at h2
     simp [h1',this]
theorem Od (s t:ByteArray):ltL (Db s) (Db t)=Op.bytesLess s.toList t.toList:=by rw[ByteArray.toList_eq,ByteArray.toList_eq];exact bU _ _
theorem Oe (s t:ByteArray):Db (s++t)=Db s++Db t:=by simp [Db]
theorem B9 (s:ByteArray):(Db s).length=s.size:=by simp only[Db,List.length_map,Array.length_toList];rfl
theorem bT:∀(a b:List Nat),(!ltL b a)=(ltL a b||CR a b):=by
 intro a;induction a with
 |nil=>intro b;cases b<;>simp [ltL,CR]
 |cons x a ih=>
  intro b;cases b with
  |nil=>simp [ltL,CR]
  |cons y b=>
   simp only[ltL,CR];have e1:Nat.blt y x=decide (y<x):=by rw[Bool.eq_iff_iff];simp [Nat.blt_eq]
   have e2:Nat.blt x y=decide (x<y):=by rw[Bool.eq_iff_iff];simp [Nat.blt_eq]
   have e3:Nat.beq y x=decide (y=x):=by rw[Bool.eq_iff_iff];simp
   have e4:Nat.beq x y=decide (x=y):=by rw[Bool.eq_iff_iff];simp
   rw[e1,e2,e3,e4];rcases Nat.lt_trichotomy x y with hlt|heq|hgt
   ·simp [hlt,Nat.not_lt.2 (Nat.le_of_lt hlt),Nat.ne_of_gt hlt]
   ·subst heq;simp [ih b]
   ·simp [hgt,Nat.not_lt.2 (Nat.le_of_lt hgt),Nat.ne_of_gt hgt]
theorem fS {op:BinOp} {sop':SOp} {x y:V} {x' y':Value} {c:KV} (t:Nat) (ho:sop op=some sop') (hx:VR ρ x x') (hy:VR ρ y y')
  (e:Fw sop' x y h c=true):∃z z',c z h=true∧(binOp op t x' y').run P w=.ok z' w∧VR ρ z z'∧∃s,x'=.string s:=by
 cases hx with
 |str a s hs=>
  cases hy with
  |str b u hu=>
   change Db s=a at hs;change Db u=b at hu;subst hs hu;have geq:∀s u:ByteArray,(!ltL (Db s) (Db u))= !Op.bytesLess s.toList u.toList:=fun s u=>by rw[Od]
   have leq:(!ltL (Db u) (Db s))=(Op.bytesLess s.toList u.toList||s.toList==u.toList):=by rw[bT,Od,E0]
   have gtr:ltL (Db u) (Db s)= !(Op.bytesLess s.toList u.toList||s.toList==u.toList):=by rw[←leq];simp
   cases op<;>simp only[sop,Option.some.injEq,reduceCtorEq] at ho<;>subst ho<;>simp only[Fw,PZ] at e
   ·split at e
    ·rename_i hle;have hle:=Nat.le_of_ble_eq_true hle;rw[CN,CN,B9,B9] at hle;refine ⟨_,_,e,?_,.str _ (s++u) (Oe s u),_,rfl⟩;simp only[binOp,Op.stringOp];rw[if_neg (by rw[IntKind.max_i64];omega)];rfl
    ·cases e
   ·exact ⟨_,_,C8 e,by simp only[binOp,Op.stringOp];rw[E0];rfl,.bool _,_,rfl⟩
   ·exact ⟨_,_,C8 e,by simp only[binOp,Op.stringOp];rw[E0];rfl,.bool _,_,rfl⟩
   ·exact ⟨_,_,C8 e,by simp only[binOp,Op.stringOp];rw[Od];rfl,.bool _,_,rfl⟩
   ·exact ⟨_,_,C8 e,by simp only[binOp,Op.stringOp];rw[leq];rfl,.bool _,_,rfl⟩
   ·exact ⟨_,_,C8 e,by simp only[binOp,Op.stringOp];rw[gtr];rfl,.bool _,_,rfl⟩
   ·exact ⟨_,_,C8 e,by simp only[binOp,Op.stringOp];rw[geq];rfl,.bool _,_,rfl⟩
  |_=>simp [Fw] at e
 |_=>simp [Fw] at e
end
end Go.AJ
namespace Go.AJ
open Go
variable [BN]
section
variable {P:Program} {X:Cx} {ρ:Ren} {h:Hp} {w:World}
theorem sX {x:V} {x':Value} {c:KV} (hx:VR ρ x x') (e:fX x h c=true):∃z z',c z h=true∧(Op.unary .not x').run P w=.ok z' w∧VR ρ z z':=by
 cases hx with
 |bool b=>exact ⟨_,_,C8 (by simpa only[fX] using e),rfl,.bool _⟩
 |_=>simp [fX] at e
theorem sY {x:V} {x':Value} {c:KV} (hx:VR ρ x x') (e:sZ x h c=true):∃z z',c z h=true∧(Op.unary .neg x').run P w=.ok z' w∧VR ρ z z':=by
 cases hx with
 |int k n=>exact ⟨_,_,Fj e,rfl,.int _ _⟩
 |_=>simp [sZ] at e
theorem RJ {x:V} {x':Value} {c:KV} (hx:VR ρ x x') (e:DW x h c=true):
  c x h=true∧((∃a,x'=.pointer (some a))∨(∃f a b,x'=.func (.func f) a b)∨(∃l a b,x'=.func (.yield l) a b)):=by
 cases hx with
 |ptr b o r hr=>exact ⟨e,.inl ⟨_,rfl⟩⟩
 |rp l off l' a hr hl ho=>exact ⟨e,.inl ⟨_,rfl⟩⟩
 |fn f a c a' c' ha hc=>exact ⟨e,.inr (.inl ⟨_,_,_,rfl⟩)⟩
 |yld b r hr=>exact ⟨e,.inr (.inr ⟨_,_,_,rfl⟩)⟩
 |_=>simp [DW] at e
theorem Ky {b:K} {off n sz:Nat} {i:Int} {c:KV} (e:Kz b off n sz i h c=true):∃m:Nat,i=m∧m<n∧c (.ptr b (off+m*sz)) h=true:=by
 cases i with
 |negSucc m=>simp [Kz] at e
 |ofNat m=>
  simp only[Kz] at e;split at e
  ·rename_i hm;rw[AF] at e;exact ⟨m,rfl,Nat.blt_eq▸hm,e⟩
  ·cases e
theorem Ih {l:List V} {off n sz:Nat} {i:Int} {c:KV} (e:Ii l off n sz i h c=true):∃m:Nat,i=m∧m<n∧c (.rp l (off+m*sz)) h=true:=by
 cases i with
 |negSucc m=>simp [Ii] at e
 |ofNat m=>
  simp only[Ii] at e;split at e
  ·rename_i hm;rw[AF] at e;exact ⟨m,rfl,Nat.blt_eq▸hm,e⟩
  ·cases e
theorem ta {x i:V} {x' i':Value} {c:KV} {t el:Nat} {ti:TypeInfo} (hu:P.underlying t=some (.slice el)) (hi:P.info? el=some ti) (hx:VR ρ x x') (hix:VR ρ i i')
  (e:Jq x i ti.size h c=true):∃z z',c z h=true∧(Instr.indexAt t x' i').run P w=.ok z' w∧VR ρ z z':=by
 cases hix with
 |int k n=>
  simp only[Jq] at e;have key:∀(b:K) (o l:Nat) (r:RB) (cp:Nat),ρ b=some r→Kz b o l ti.size n h c=true→
    ∃z z',c z h=true∧(Instr.indexAt t (.slice (some ⟨r.blk,o+r.d,none⟩) l cp) (.int k n)).run P w=.ok z' w∧VR ρ z z':=by
   intro b o l r cp hr e;obtain ⟨m,rfl,hm,hc⟩:=Ky e;refine ⟨_,_,hc,?_,.ptr b _ r hr⟩;simp [Instr.indexAt,asIntOf,run_underlying hu,hm,AD hi,Addr.add_lit];omega
  cases hx with
  |slc b o l cp r hr=>exact key b o l r cp hr e
  |slo b o l cp p r hr hp hf=>exact key b o l r (cp+r.x) hr e
  |rsl l off len cap l' a hr hl ho=>obtain ⟨m,rfl,hm,hc⟩:=Ih e;refine ⟨_,_,hc,?_,.rp l _ l' a hr hl ho⟩;simp [Instr.indexAt,asIntOf,run_underlying hu,hm,AD hi,Addr.add_two]
  |_=>simp at e
 |_=>simp [Jq] at e
theorem gb {x i:V} {x' i':Value} {c:KV} {t el n:Nat} {ti:TypeInfo} (hu:P.underlying t=some (.array n el)) (hi:P.info? el=some ti) (hx:VR ρ x x') (hix:VR ρ i i')
  (e:IZ x i ti.size n h c=true):∃z z',c z h=true∧(Instr.indexAt t x' i').run P w=.ok z' w∧VR ρ z z':=by
 cases hix with
 |int k q=>
  simp only[IZ] at e;cases hx with
  |ptr b o r hr=>obtain ⟨m,rfl,hm,hc⟩:=Ky e;refine ⟨_,_,hc,?_,.ptr b _ r hr⟩;simp [Instr.indexAt,asIntOf,run_underlying hu,hm,AD hi,Addr.add_lit,Instr.sureAddr];omega
  |rp l off l' a hr hl ho=>obtain ⟨m,rfl,hm,hc⟩:=Ih e;refine ⟨_,_,hc,?_,.rp l _ l' a hr hl ho⟩;simp [Instr.indexAt,asIntOf,run_underlying hu,hm,AD hi,Addr.add_two,Instr.sureAddr]
  |_=>simp at e
 |_=>simp [IZ] at e
theorem tc {x:V} {x':Value} {i:Nat} {c:KV} (hx:VR ρ x x') (e:bu x i h c=true):∃z z',c z h=true∧(Instr.extract x' i).run P w=.ok z' w∧VR ρ z z':=by
 cases hx with
 |tup l l' hl=>obtain ⟨z,hz,hc⟩:=H0 _ _ _ (by simpa only[bu] using e);obtain ⟨z',hz',hr⟩:=hl.get hz;exact ⟨z,z',hc,by simp [Instr.extract,hz'],hr⟩
 |_=>simp [bu] at e
theorem Pt {l:List V} {l':List Value} {off t:Nat} {d:TypeDesc} {ti:TypeInfo} {c:KV} (hu:P.underlying t=some d) (hi:P.info? t=some ti) (hl:VL ρ l l') (ho:∀v∈l,v.one=true)
  (e:NQ l off ti.size (Dv d) h c=true):∃z z',c z h=true∧(part t ⟨l'⟩ off).run P w=.ok z' w∧VR ρ z z':=by
 cases hd:Dv d with
 |true=>rw[hd] at e;simp only[NQ] at e;obtain ⟨hle,hc⟩:=ET _ _ _ e;rw[E7] at hle hc;refine ⟨_,.agg ⟨(l'.drop off).take ti.size⟩,hc,?_,.agg _ _ ((hl.drop off).take _) (fun v hv=>ho v (List.mem_of_mem_drop (List.mem_of_mem_take hv)))⟩;simp only[part,Sem.run_bind,Dh hu,hd,Result.andThen_ok,if_true,AD hi,Sem.run_pure];congr 2;apply Array.ext';simp [List.take_drop]
 |false=>rw[hd] at e;obtain ⟨z,hz,hc⟩:=H0 _ _ _ (by simpa only[NQ] using e);obtain ⟨z',hz',hr⟩:=hl.get hz;refine ⟨z,z',hc,?_,hr⟩;simp [part,Dh hu,hd,hz']
theorem tb {x:V} {x':Value} {t f:Nat} {fs:Array Field} {fd:Field} {d:TypeDesc} {ti:TypeInfo} {c:KV} (hu:P.underlying t=some (.struct fs)) (hf:fs[f]? =some fd)
  (hu':P.underlying fd.type=some d) (hi:P.info? fd.type=some ti) (hx:VR ρ x x') (e:gg x fd.offset ti.size (Dv d) h c=true):
  ∃z z',c z h=true∧(Instr.field t x' f).run P w=.ok z' w∧VR ρ z z':=by
 cases hx with
 |agg l l' hl ho=>obtain ⟨z,z',hc,hr,hv⟩:=Pt (P:=P) (w:=w) hu' hi hl ho (by simpa only[gg] using e);exact ⟨z,z',hc,by simp [Instr.field,run_underlying hu,hf,asAgg,hr],hv⟩
 |_=>simp [gg] at e
theorem ga {x i:V} {x' i':Value} {c:KV} {t el n:Nat} {d:TypeDesc} {ti:TypeInfo} (hu:P.underlying t=some (.array n el)) (hu':P.underlying el=some d) (hi:P.info? el=some ti)
  (hx:VR ρ x x') (hix:VR ρ i i') (e:IY x i ti.size n (Dv d) h c=true):∃z z',c z h=true∧(Instr.index t x' i').run P w=.ok z' w∧VR ρ z z':=by
 cases hx with
 |agg l l' hl ho=>
  cases hix with
  |int k q=>
   cases q with
   |negSucc m=>simp [IY] at e
   |ofNat m=>
    simp only[IY] at e;split at e
    ·rename_i hm;obtain ⟨z,z',hc,hr,hv⟩:=Pt (P:=P) (w:=w) hu' hi hl ho e;have hm':m<n:=Nat.blt_eq▸hm;exact ⟨z,z',hc,by simp [Instr.index,asIntOf,run_underlying hu,hm',AD hi,hr],hv⟩
    ·cases e
  |_=>simp [IY] at e
 |_=>simp [IY] at e
theorem fZ {x i:V} {x' i':Value} {c:KV} {t:Nat} (hu:P.underlying t=some .string) (hx:VR ρ x x') (hix:VR ρ i i') (e:HZ x i h c=true):
  ∃z z',c z h=true∧(Instr.index t x' i').run P w=.ok z' w∧VR ρ z z':=by
 cases hx with
 |str a s hs=>
  change Db s=a at hs;subst hs;cases hix with
  |int k q=>
   cases q with
   |negSucc m=>simp [HZ] at e
   |ofNat m=>
    obtain ⟨b,hb,hc⟩:=H0 _ _ _ (by simpa only[HZ] using e);simp only[Db,List.getElem?_map,Option.map_eq_some_iff] at hb;obtain ⟨u,hu',rfl⟩:=hb;have hs:s[m]? =some u:=by
     have:s.data[m]? =some u:=by simpa using hu'
     rw[←this];rfl
    refine ⟨_,_,hc,?_,.int _ _⟩;simp [Instr.index,asIntOf,run_underlying hu,hs]
  |_=>simp [HZ] at e
 |_=>simp [HZ] at e
theorem gj {x:V} {x':Value} {c:KV} {s t:Nat} {d:TypeDesc} {k:IntKind} (hs:P.underlying s=some d) (hd:P.underlying t=some (.int k)) (hx:VR ρ x x') (e:Ko k x h c=true):
  ∃z z',c z h=true∧(convert s t x').run P w=.ok z' w∧VR ρ z z':=by
 cases hx with
 |int k' n=>refine ⟨_,_,Fj (by simpa only[Ko] using e),?_,.int _ _⟩;simp [convert,run_underlying hs,run_underlying hd,Conv.intToInt]
 |_=>simp [Ko] at e
def LK.fits:LK→TypeDesc→Prop
 |.str,d=>d=.string
 |.sl,d=>∃e,d=.slice e
 |.map,d=>∃k e,d=.map k e
theorem MR.length {l:List ME} {l':List MapEntry} (h:MR ρ l l'):l.length=l'.length:=by
 induction h with
 |nil=>rfl
 |cons _ _ _ _ _ _ _ _ _ _ ih=>simp [ih]
theorem Oc {q:LK} {x:V} {x':Value} {c:KV} {t ty:Nat} {d:TypeDesc} (H:HR X ρ h w) (hu:P.underlying t=some d) (hq:q.fits d) (hx:VR ρ x x') (e:GX q x h c=true):
  ∃z z',c z h=true∧(Builtin.len_ #[t] ty #[x']).run P w=.ok z' w∧VR ρ z z':=by
 cases q with
 |str=>
  cases hq;cases hx with
  |str a s hs=>change Db s=a at hs;subst hs;simp only[GX,AF,CN,B9] at e;exact ⟨_,_,e,by simp [Builtin.len_,run_underlying hu,goInt],.int _ _⟩
  |_=>simp [GX] at e
 |sl=>
  obtain ⟨el,rfl⟩:=hq;cases hx with
  |nils=>exact ⟨_,_,e,by simp [Builtin.len_,run_underlying hu,goInt],.int _ _⟩
  |slc b o l cp r hr=>exact ⟨_,_,e,by simp [Builtin.len_,run_underlying hu,goInt],.int _ _⟩
  |slo b o l cp p r hr hp hf=>exact ⟨_,_,e,by simp [Builtin.len_,run_underlying hu,goInt],.int _ _⟩
  |rsl l off len cap l' a hr hl ho=>exact ⟨_,_,e,by simp [Builtin.len_,run_underlying hu,goInt],.int _ _⟩
  |esl a cap=>exact ⟨_,_,e,by simp [Builtin.len_,run_underlying hu,goInt],.int _ _⟩
  |_=>simp [GX] at e
 |map=>
  obtain ⟨k,el,rfl⟩:=hq;cases hx with
  |nilm=>exact ⟨_,_,e,by simp [Builtin.len_,run_underlying hu,goInt],.int _ _⟩
  |map b r hr=>
   simp only[GX] at e;split at e
   ·rename_i es clock hb;rw[AF,CN] at e;obtain ⟨o,ho,hbr⟩:=H.live b r (by rw[hb];simp) hr;rw[hb] at hbr;obtain ⟨es',rfl,hm⟩:=hbr;refine ⟨_,_,e,?_,.int _ _⟩;have:=hm.length;simp only[Array.length_toList] at this;simp [Builtin.len_,run_underlying hu,getObj,Sem.run,ho,goInt,this]
   ·cases e
  |_=>simp [GX] at e
theorem tf {x:V} {x':Value} {c:KV} {t ty el:Nat} (hu:P.underlying t=some (.slice el)) (hx:VR ρ x x') (e:gp x h c=true):
  ∃z z',c z h=true∧(Builtin.cap_ #[t] ty #[x']).run P w=.ok z' w∧VR ρ z z':=by
 cases hx with
 |nils=>exact ⟨_,_,e,by simp [Builtin.cap_,run_underlying hu,goInt],.int _ _⟩
 |slc b o l cp r hr=>exact ⟨_,_,e,by simp [Builtin.cap_,run_underlying hu,goInt],.int _ _⟩
 |rsl l off len cap l' a hr hl ho=>exact ⟨_,_,e,by simp [Builtin.cap_,run_underlying hu,goInt],.int _ _⟩
 |_=>simp [gp] at e
theorem bp {mx:Bool} {c:V→Bool}:∀{l:List V} {l':List Value} {x:V} {x':Value},VR ρ x x'→VL ρ l l'→Oa mx l x c=true→
  ∃z z',c z=true∧(l'.foldlM (if mx then Builtin.max2 else Builtin.min2) x').run P w=.ok z' w∧VR ρ z z':=by
 intro l;induction l with
 |nil=>intro l' x x' hx hl e;cases hl;exact ⟨x,x',by simpa only[Oa] using e,by simp,hx⟩
 |cons y l ih=>
  intro l' x x' hx hl e;cases hl with
  |cons _ y' _ l' hy hl=>
   cases hx with
   |int k a=>
    cases hy with
    |int k' b=>
     simp only[Oa,mxn] at e;replace e:=Be e;obtain ⟨rfl,e⟩:=e;cases mx with
     |true=>
      simp only[Cw] at e;by_cases hab:a<b
      ·simp only[hab,decide_true] at e;obtain ⟨z,z',hc,hr,hv⟩:=ih (.int k b) hl e;exact ⟨z,z',hc,by simpa [List.foldlM_cons,Builtin.max2,hab] using hr,hv⟩
      ·simp only[hab,decide_false] at e;obtain ⟨z,z',hc,hr,hv⟩:=ih (.int k a) hl e;exact ⟨z,z',hc,by simpa [List.foldlM_cons,Builtin.max2,hab] using hr,hv⟩
     |false=>
      simp only[Cw] at e;by_cases hab:b<a
      ·simp only[hab,decide_true] at e;obtain ⟨z,z',hc,hr,hv⟩:=ih (.int k b) hl e;exact ⟨z,z',hc,by simpa [List.foldlM_cons,Builtin.min2,hab] using hr,hv⟩
      ·simp only[hab,decide_false] at e;obtain ⟨z,z',hc,hr,hv⟩:=ih (.int k a) hl e;exact ⟨z,z',hc,by simpa [List.foldlM_cons,Builtin.min2,hab] using hr,hv⟩
    |_=>simp [Oa,mxn] at e
   |_=>simp [Oa,mxn] at e
def pb (a b:List Nat):Int:=if ltL a b then -1 else if CR a b then 0 else 1
theorem RM {x y:V} {x' y':Value} {c:KV} (hx:VR ρ x x') (hy:VR ρ y y') (e:DA x y h c=true):
  ∃s u,x'=.string s∧y'=.string u∧c (.int .i64 (pb (Db s) (Db u))) h=true:=by
 cases hx with
 |str a s hs=>
  cases hy with
  |str b u hu=>
   change Db s=a at hs;change Db u=b at hu;subst hs hu;refine ⟨s,u,rfl,rfl,?_⟩;simp only[DA] at e;unfold pb;split at e
   ·rename_i h1;rw[h1];exact e
   ·rename_i h1;rw[h1];split at e
    ·rename_i h2;rw[h2];exact e
    ·rename_i h2;rw[h2];exact e
  |_=>simp [DA] at e
 |_=>simp [DA] at e
end
end Go.AJ
namespace Go.AJ
open Go
variable [BN]
section
variable {P:Program} {X:Cx} {ρ:Ren} {h:Hp} {w:World}
def _root_.Go.Value.isNum:Value→Bool
 |.int _ _=>true
 |.string _=>true
 |_=>false
theorem M2 {q:CK} {x y:V} {x' y':Value} {c:Bool→Bool} (hx:VR ρ x x') (hy:VR ρ y y') (e:Bk q x y c=true):
  ∃r,c r=true∧∀(d:Nat) (t:Nat) (D:TypeDesc) (w:World),P.underlying t=some D→Hh D=some q→(Op.equalIn (d+1) t x' y').run P w=.ok r w:=by
 cases q with
 |int=>
  cases hx with
  |int k a=>
   cases hy with
   |int k' b=>
    simp only[Bk] at e;replace e:=Be e;obtain ⟨rfl,e⟩:=e;refine ⟨_,e,fun d t D w hu hq=>?_⟩;cases D<;>simp [Hh] at hq
    rw[run_equalIn_int w d t k _ a b hu,Ec];rfl
   |_=>simp [Bk] at e
  |_=>simp [Bk] at e
 |str=>
  cases hx with
  |str a s hs=>
   cases hy with
   |str b u hu=>
    change Db s=a at hs;change Db u=b at hu;subst hs hu;refine ⟨_,by simpa only[Bk] using e,fun d t D w hu hq=>?_⟩;cases D<;>simp [Hh] at hq
    rw[run_equalIn_string w d t s u hu,E0]
   |_=>simp [Bk] at e
  |_=>simp [Bk] at e
 |bool=>
  cases hx with
  |bool a=>
   cases hy with
   |bool b=>
    refine ⟨a==b,?_,fun d t D w hu hq=>?_⟩
    ·cases a<;>simpa [Bk] using e
    ·cases D<;>simp [Hh] at hq
     exact run_equalIn_bool' w d t a b hu
   |_=>simp [Bk] at e
  |_=>simp [Bk] at e
theorem M7 {D:TypeDesc} {q:CK} (h:Hh D=some q):Dv D=false:=by cases D<;>simp_all [Hh,Dv]
theorem Ds {t n:Nat} {D:TypeDesc} {v:Value} {l:List Value} (hu:P.underlying t=some D) (hd:Dv D=false) (hv:l[n]? =some v) (w:World):(part t ⟨l⟩ n).run P w=.ok v w:=by simp [part,Dh hu,hd,hv]
theorem GZ {q:CK} {l:List CK} {xs ys:List V} {xs' ys':List Value} {c:Bool→Bool} {n:Nat} (hx:VL ρ xs xs') (hy:VL ρ ys ys') (e:BM (q::l) (xs.drop n) (ys.drop n) c=true):
  ∃a b r,xs'[n]? =some a∧ys'[n]? =some b∧(∀(d:Nat) (t:Nat) (D:TypeDesc) (w:World),P.underlying t=some D→Hh D=some q→(Op.equalIn (d+1) t a b).run P w=.ok r w)∧
   (match r with|true=>BM l (xs.drop (n+1)) (ys.drop (n+1)) c=true|false=>c false=true):=by
 cases hxn:xs.drop n with
 |nil=>rw[hxn] at e;simp [BM] at e
 |cons x xr=>
  cases hyn:ys.drop n with
  |nil=>rw[hxn,hyn] at e;simp [BM] at e
  |cons y yr=>
   rw[hxn,hyn] at e;simp only[BM] at e;have gx:xs[n]? =some x:=by rw[←List.head?_drop,hxn];rfl
   have gy:ys[n]? =some y:=by rw[←List.head?_drop,hyn];rfl
   obtain ⟨a,ha,hxa⟩:=hx.get gx;obtain ⟨b,hb,hyb⟩:=hy.get gy;obtain ⟨r,hr,hall⟩:=M2 (P:=P) hxa hyb e;refine ⟨a,b,r,ha,hb,hall,?_⟩;have dx:xs.drop (n+1)=xr:=by rw[←List.drop_drop,hxn];rfl
   have dy:ys.drop (n+1)=yr:=by rw[←List.drop_drop,hyn];rfl
   cases r with
   |true=>simpa [dx,dy] using hr
   |false=>simpa using hr
theorem Ow (hT:TyOK P X) {xs ys:List V} {xs' ys':List Value} {c:Bool→Bool} (hx:VL ρ xs xs') (hy:VL ρ ys ys') (d:Nat):∀(fs:List Field) (n:Nat) (l:List CK),CP X.T n fs=some l→
  xs.length=n+fs.length∨True→BM l (xs.drop n) (ys.drop n) c=true→∃r,c r=true∧(Op.eqFields (d+1) ⟨xs'⟩ ⟨ys'⟩ fs).run P w=.ok r w:=by
 intro fs;induction fs with
 |nil=>
  intro n l hl _ e;simp only[CP,Option.some.injEq] at hl;subst hl;refine ⟨true,?_,by simp [Op.eqFields]⟩;cases hxn:xs.drop n with
  |nil=>
   cases hyn:ys.drop n with
   |nil=>rw[hxn,hyn] at e;simpa only[BM] using e
   |cons _ _=>rw[hxn,hyn] at e;simp [BM] at e
  |cons _ _=>rw[hxn] at e;simp [BM] at e
 |cons f fs ih=>
  intro n l hl _ e;simp only[CP] at hl;split at hl
  ·rename_i D i r hu hi hr;split at hl
   ·rename_i q hq;split at hl
    ·rename_i hc;obtain ⟨_,hoff,hname⟩:=hc;simp only[Option.some.injEq] at hl;subst hl;obtain ⟨a,b,res,ha,hb,hall,hnext⟩:=GZ (P:=P) hx hy e;have hu':=hT.un _ _ hu;have hflat:=M7 hq;simp only[Op.eqFields,if_pos hname,Sem.run_bind,hoff,Ds hu' hflat ha,Ds hu' hflat hb,Result.andThen_ok,hall d f.type D w hu' hq];cases res with
     |true=>simpa using ih (n+1) r hr (.inr trivial) hnext
     |false=>exact ⟨false,hnext,by simp⟩
    ·cases hl
   ·cases hl
  ·cases hl
theorem TB {xs ys:List V} {xs' ys':List Value} {c:Bool→Bool} (hx:VL ρ xs xs') (hy:VL ρ ys ys') (d t:Nat) {D:TypeDesc} {q:CK} (hu:P.underlying t=some D) (hq:Hh D=some q):
  ∀(m n:Nat),BM (List.replicate m q) (xs.drop n) (ys.drop n) c=true→∃r,c r=true∧
   (Op.eqItems (d+1) t 1 ⟨xs'⟩ ⟨ys'⟩ (List.range' n m)).run P w=.ok r w:=by
 intro m;induction m with
 |zero=>
  intro n e;refine ⟨true,?_,by simp [Op.eqItems]⟩;simp only[List.replicate_zero] at e;cases hxn:xs.drop n with
  |nil=>
   cases hyn:ys.drop n with
   |nil=>rw[hxn,hyn] at e;simpa only[BM] using e
   |cons _ _=>rw[hxn,hyn] at e;simp [BM] at e
  |cons _ _=>rw[hxn] at e;simp [BM] at e
 |succ m ih=>
  intro n e;rw[List.replicate_succ] at e;obtain ⟨a,b,res,ha,hb,hall,hnext⟩:=GZ (P:=P) hx hy e;have hflat:=M7 hq;simp only[List.range'_succ,Op.eqItems,Sem.run_bind,Nat.mul_one,Ds hu hflat ha,Ds hu hflat hb,Result.andThen_ok,hall d t D w hu hq];cases res with
  |true=>obtain ⟨r,hc,hr⟩:=ih (n+1) hnext;refine ⟨r,hc,?_⟩;simpa using hr
  |false=>exact ⟨false,hnext,by simp⟩
theorem M4 (P:Program):∃k,P.depth=k+2:=⟨2*(P.types.size+Made.depth),rfl⟩
theorem Ej {t:Nat} {D:TypeDesc} {q:CK} (hu:P.underlying t=some D) (hq:Hh D=some q) (k:Nat):P.eqGuardType (k+1) t=false:=by cases D<;>simp [Hh] at hq<;>simp [Program.eqGuardType,hu]
theorem MZ (hT : TyOK P X) (k : Nat) : ∀ (fs : List Field) (n : Nat) (l : List CK), CP X.T n fs = some l → (fs.any fun f => f.name != "_" && P.eqGuardType (k + 1) f.type) = false := by
 intro fs;induction fs with
 |nil=>intro n l _;rfl
 |cons f fs ih=>
  intro n l hl;simp only[CP] at hl;split at hl
  ·rename_i D i r hu hi hr;split at hl
   ·rename_i q hq;simp [Ej (hT.un _ _ hu) hq k];simpa using ih (n+1) r hr
   ·cases hl
  ·cases hl
def Qi (a b:Value):Bool:=match a,b with
 |.nilIface,.nilIface=>false
 |.agg _,.agg _=>false
 |_,_=>true
theorem Aw (op:BinOp) (t:TypeId) (xo yo:Operand) {a b:Value} (hf:Qi a b=true) (w:World):(eqGuard op t xo yo a b).run P w=.ok () w:=by
 unfold eqGuard;generalize (!match op with|.eql=>true|.neq=>true|x=>false)=g;cases g with
 |true=>simp
 |false=>
  simp only[Bool.false_eq_true,if_false];unfold Qi at hf;split at hf
  ·cases hf
  ·cases hf
  ·split
   ·rename_i h1 _;exact absurd rfl (h1 rfl)
   ·rename_i _ _ h2;exact absurd rfl (h2 _ _ rfl)
   ·simp
section
variable {t:TypeId} (d:Nat) (w:World)
theorem F5 {el:TypeId} (hu:P.underlying t=some (.pointer el)) {a b:Option Addr} (h:a=none∨b=none):(Op.equalIn (d+1) t (.pointer a) (.pointer b)).run P w=.ok (a.isNone&&b.isNone) w:=by
 rcases h with rfl|rfl
 ·simp [Op.equalIn,run_underlying hu]
 ·cases a<;>simp [Op.equalIn,run_underlying hu]
theorem D7 {el:TypeId} (hu:P.underlying t=some (.slice el)) {a b:Option Addr} (n c m e:Nat) (h:a=none∨b=none):(Op.equalIn (d+1) t (.slice a n c) (.slice b m e)).run P w=.ok (a.isNone&&b.isNone) w:=by
 rcases h with rfl|rfl
 ·simp [Op.equalIn,run_underlying hu]
 ·cases a<;>simp [Op.equalIn,run_underlying hu]
theorem KQ {k el:TypeId} (hu:P.underlying t=some (.map k el)) {a b:Option Nat} (h:a=none∨b=none):(Op.equalIn (d+1) t (.map a) (.map b)).run P w=.ok (a.isNone&&b.isNone) w:=by
 rcases h with rfl|rfl
 ·simp [Op.equalIn,run_underlying hu]
 ·cases a<;>simp [Op.equalIn,run_underlying hu]
theorem iU {a b c} (hu:P.underlying t=some (.func a b c)):(Op.equalIn (d+1) t .nilFunc .nilFunc).run P w=.ok true w:=by simp [Op.equalIn,run_underlying hu]
theorem Qq {a b c} (hu:P.underlying t=some (.func a b c)) (f x y):(Op.equalIn (d+1) t .nilFunc (.func f x y)).run P w=.ok false w:=by simp [Op.equalIn,run_underlying hu]
theorem Qp {a b c} (hu:P.underlying t=some (.func a b c)) (f x y):(Op.equalIn (d+1) t (.func f x y) .nilFunc).run P w=.ok false w:=by simp [Op.equalIn,run_underlying hu]
theorem iT {ms} (hu:P.underlying t=some (.interface ms)):(Op.equalIn (d+1) t .nilIface .nilIface).run P w=.ok true w:=by simp [Op.equalIn,run_underlying hu]
theorem iR {ms} (hu:P.underlying t=some (.interface ms)) (u v):(Op.equalIn (d+1) t .nilIface (.iface u v)).run P w=.ok false w:=by simp [Op.equalIn,run_underlying hu]
theorem iQ {ms} (hu:P.underlying t=some (.interface ms)) (u v):(Op.equalIn (d+1) t (.iface u v) .nilIface).run P w=.ok false w:=by simp [Op.equalIn,run_underlying hu]
theorem iV {n el:Nat} {i:TypeInfo} (hu:P.underlying t=some (.array n el)) (hi:P.info? el=some i) (hs:i.size=1) (xs ys:Array Value) (r:Bool)
  (h:(Op.eqItems d el 1 xs ys (List.range' 0 n)).run P w=.ok r w):
  (Op.equalIn (d+1) t (.agg xs) (.agg ys)).run P w=.ok r w:=by
 rw[run_equalIn_array w d xs ys hu hi,List.range_eq_range'];have:P.cellsOf el=1:=by simp [Program.cellsOf,hi,hs]
 rw[this];exact h
end
theorem zG (hT:TyOK P X) {t:Nat} {xo yo:Operand} {q:EK} (hq:zJ X.T t xo yo=some q) {x y:V} {x' y':Value} {c:Bool→Bool} (hx:VR ρ x x') (hy:VR ρ y y') (e:eqK q x y c=true)
  (hnp:∀t,X.T.plain t=true→P.stoodInHeld t=false) (op:BinOp):
  ∃r,c r=true∧(Op.equalIn 10000 t x' y').run P w=.ok r w∧(eqGuard op t xo yo x' y').run P w=.ok () w∧x'.isNum=false:=by
 unfold zJ at hq;split at hq
 ·rename_i d hd;have hu:=hT.un _ _ hd;cases d with
  |bool=>
   simp only[Option.some.injEq] at hq;subst hq;simp only[eqK] at e;obtain ⟨r,hr,hall⟩:=M2 (P:=P) hx hy e;cases hx with
   |bool a=>
    cases hy with
    |bool b=>exact ⟨r,hr,hall 9999 t _ w hu rfl,Aw _ _ _ _ rfl w,rfl⟩
    |_=>simp [Bk] at e
   |_=>simp [Bk] at e
  |pointer el=>
   simp only[Option.some.injEq] at hq;subst hq;cases hx with
   |nilp=>
    cases hy with
    |nilp=>exact ⟨true,e,F5 9999 w hu (by simp),Aw _ _ _ _ rfl w,rfl⟩
    |ptr b o r hr=>exact ⟨false,e,F5 9999 w hu (by simp),Aw _ _ _ _ rfl w,rfl⟩
    |rp=>exact ⟨false,e,F5 9999 w hu (by simp),Aw _ _ _ _ rfl w,rfl⟩
    |_=>simp [eqK] at e
   |ptr b o r hr=>
    cases hy with
    |nilp=>exact ⟨false,e,F5 9999 w hu (by simp),Aw _ _ _ _ rfl w,rfl⟩
    |_=>simp [eqK] at e
   |rp=>
    cases hy with
    |nilp=>exact ⟨false,e,F5 9999 w hu (by simp),Aw _ _ _ _ rfl w,rfl⟩
    |_=>simp [eqK] at e
   |_=>simp [eqK] at e
  |slice el=>
   simp only[Option.some.injEq] at hq;subst hq;cases hx with
   |nils=>
    cases hy with
    |nils=>exact ⟨true,e,D7 9999 w hu _ _ _ _ (by simp),Aw _ _ _ _ rfl w,rfl⟩
    |slc=>exact ⟨false,e,D7 9999 w hu _ _ _ _ (by simp),Aw _ _ _ _ rfl w,rfl⟩
    |slo=>exact ⟨false,e,D7 9999 w hu _ _ _ _ (by simp),Aw _ _ _ _ rfl w,rfl⟩
    |rsl=>exact ⟨false,e,D7 9999 w hu _ _ _ _ (by simp),Aw _ _ _ _ rfl w,rfl⟩
    |esl=>exact ⟨false,e,D7 9999 w hu _ _ _ _ (by simp),Aw _ _ _ _ rfl w,rfl⟩
    |_=>simp [eqK] at e
   |esl=>
    cases hy with
    |nils=>exact ⟨false,e,D7 9999 w hu _ _ _ _ (by simp),Aw _ _ _ _ rfl w,rfl⟩
    |_=>simp [eqK] at e
   |rsl=>
    cases hy with
    |nils=>exact ⟨false,e,D7 9999 w hu _ _ _ _ (by simp),Aw _ _ _ _ rfl w,rfl⟩
    |_=>simp [eqK] at e
   |slc=>
    cases hy with
    |nils=>exact ⟨false,e,D7 9999 w hu _ _ _ _ (by simp),Aw _ _ _ _ rfl w,rfl⟩
    |_=>simp [eqK] at e
   |slo=>
    cases hy with
    |nils=>exact ⟨false,e,D7 9999 w hu _ _ _ _ (by simp),Aw _ _ _ _ rfl w,rfl⟩
    |_=>simp [eqK] at e
   |_=>simp [eqK] at e
  |map k el=>
   simp only[Option.some.injEq] at hq;subst hq;cases hx with
   |nilm=>
    cases hy with
    |nilm=>exact ⟨true,e,KQ 9999 w hu (by simp),Aw _ _ _ _ rfl w,rfl⟩
    |map=>exact ⟨false,e,KQ 9999 w hu (by simp),Aw _ _ _ _ rfl w,rfl⟩
    |_=>simp [eqK] at e
   |map=>
    cases hy with
    |nilm=>exact ⟨false,e,KQ 9999 w hu (by simp),Aw _ _ _ _ rfl w,rfl⟩
    |_=>simp [eqK] at e
   |_=>simp [eqK] at e
  |func a b v=>
   simp only[Option.some.injEq] at hq;subst hq;cases hx with
   |nilf=>
    cases hy with
    |nilf=>exact ⟨true,e,iU 9999 w hu,Aw _ _ _ _ rfl w,rfl⟩
    |fn=>exact ⟨false,e,Qq 9999 w hu _ _ _,Aw _ _ _ _ rfl w,rfl⟩
    |yld=>exact ⟨false,e,Qq 9999 w hu _ _ _,Aw _ _ _ _ rfl w,rfl⟩
    |_=>simp [eqK] at e
   |fn=>
    cases hy with
    |nilf=>exact ⟨false,e,Qp 9999 w hu _ _ _,Aw _ _ _ _ rfl w,rfl⟩
    |_=>simp [eqK] at e
   |yld=>
    cases hy with
    |nilf=>exact ⟨false,e,Qp 9999 w hu _ _ _,Aw _ _ _ _ rfl w,rfl⟩
    |_=>simp [eqK] at e
   |_=>simp [eqK] at e
  |interface ms=>
   simp only at hq;split at hq
   ·rename_i hconst;simp only[Option.some.injEq] at hq;subst hq;have hg:(eqGuard op t xo yo .nilIface .nilIface).run P w=.ok () w:=by
     rw[Bool.or_eq_true] at hconst;unfold eqGuard;generalize (!match op with|.eql=>true|.neq=>true|x=>false)=g;cases g with
     |true=>simp
     |false=>
      simp only[Bool.false_eq_true,if_false];rcases hconst with hc|hc
      ·cases xo<;>simp [Hy] at hc
       simp
      ·cases yo<;>simp [Hy] at hc
       cases xo<;>simp
    cases hx with
    |nili=>
     cases hy with
     |nili=>exact ⟨true,e,iT 9999 w hu,hg,rfl⟩
     |ifc=>exact ⟨false,e,iR 9999 w hu _ _,Aw _ _ _ _ rfl w,rfl⟩
     |_=>simp [eqK] at e
    |ifc=>
     cases hy with
     |nili=>exact ⟨false,e,iQ 9999 w hu _ _,Aw _ _ _ _ rfl w,rfl⟩
     |_=>simp [eqK] at e
    |_=>simp [eqK] at e
   ·cases hq
  |struct fs=>
   simp only at hq;split at hq
   ·rename_i hp;split at hq
    ·rename_i l hl;simp only[Option.some.injEq] at hq;subst hq;cases hx with
     |agg xs xs' hxl hxo=>
      cases hy with
      |agg ys ys' hyl hyo=>
       simp only[eqK] at e;obtain ⟨k,hk⟩:=M4 P;have hf:P.fieldsOf t=fs:=by simp [Program.fieldsOf,hu]
       obtain ⟨r,hc,hr⟩:=Ow (P:=P) (w:=w) hT hxl hyl 9998 fs.toList 0 l hl (.inr trivial) (by simpa using e);refine ⟨r,hc,?_,run_eqGuard_agg w op t xo yo _ _ ?_,rfl⟩
       ·rw[run_equalIn_struct w 9999 t _ _ (by rw[hf];exact hu) (hnp t hp),hf];exact hr
       ·rw[hk];simp only[Program.eqGuardType,hu];rw[←Array.any_toList];exact MZ hT k fs.toList 0 l hl
      |_=>simp [eqK] at e
     |_=>simp [eqK] at e
    ·cases hq
   ·cases hq
  |array n el=>
   simp only at hq;split at hq
   ·rename_i D i hD hi;split at hq
    ·rename_i ck hck;split at hq
     ·rename_i hsz;simp only[Option.some.injEq] at hq;subst hq;cases hx with
      |agg xs xs' hxl hxo=>
       cases hy with
       |agg ys ys' hyl hyo=>
        simp only[eqK] at e;obtain ⟨k,hk⟩:=M4 P;have huD:=hT.un _ _ hD;obtain ⟨r,hc,hr⟩:=TB (P:=P) (w:=w) hxl hyl 9998 el huD hck n 0 (by simpa using e);refine ⟨r,hc,?_,run_eqGuard_agg w op t xo yo _ _ ?_,rfl⟩
        ·exact iV 9999 w hu (hT.inf _ _ hi) hsz _ _ r hr
        ·rw[hk];simp only[Program.eqGuardType,hu];exact Ej huD hck k
       |_=>simp [eqK] at e
      |_=>simp [eqK] at e
     ·cases hq
    ·cases hq
   ·cases hq
  |_=>simp at hq
 ·cases hq
end
end Go.AJ
namespace Go.AJ
open Go
variable [BN]
theorem MJ {f:Value→Option V} {ρ:Ren} (hf:∀v x,f v=some x→VR ρ x v):∀(l:List Value) (r:List V),Jn f l=some r→VL ρ r l:=by
 intro l;induction l with
 |nil=>intro r h;simp only[Jn,Option.some.injEq] at h;subst h;exact .nil
 |cons v l ih=>
  intro r h;simp only[Jn] at h;split at h
  ·rename_i x y hx hy;simp only[Option.some.injEq] at h;subst h;exact .cons _ _ _ _ (hf _ _ hx) (ih _ hy)
  ·cases h
theorem Kn {ρ:Ren}:∀(n:Nat) (v:Value) (x:V),MK n v=some x→VR ρ x v:=by
 intro n;induction n with
 |zero=>intro v x h;simp [MK] at h
 |succ n ih=>
  intro v x h;unfold MK at h;split at h
  ·cases h;exact .int _ _
  ·cases h;exact .bool _
  ·cases h;exact .str _ _ rfl
  ·cases h;exact .nilp
  ·cases h;exact .nils
  ·cases h;exact .nilm
  ·cases h;exact .nilf
  ·cases h;exact .nili
  ·split at h
   ·rename_i hv;cases h;exact .ifc _ _ _ (ih _ _ hv)
   ·cases h
  ·split at h
   ·rename_i l hl;split at h
    ·rename_i ho;cases h;exact .agg _ _ (MJ (ih · ·) _ _ hl) (Dw.1 ho)
    ·cases h
   ·cases h
  ·split at h
   ·rename_i l hl;cases h;exact .tup _ _ (MJ (ih · ·) _ _ hl)
   ·cases h
  ·cases h
section
variable {P:Program} {X:Cx} {ρ:Ren} {h:Hp} {w:World} {q:List K} {n:Nat} {t:T V} {a:Act}
def EvR (ρ:Ren) (t:T V) (a:Act) (x:Operand):Prop:=∀x',cX x=some x'→VR ρ (ev t x') (a.eval x)
theorem uk (ht:TR ρ q n t a.tmps) {x:Operand} (hq:∀i,x=.tmp i→K.of i∉q):EvR ρ t a x:=by
 intro x' hx;cases x with
 |tmp i=>simp only[cX,Option.some.injEq] at hx;subst hx;exact ht.val i (hq i rfl)
 |const v=>
  simp only[cX] at hx;split at hx
  ·rename_i v' hv;simp only[Option.some.injEq] at hx;subst hx;exact Kn _ _ _ hv
  ·cases hx
 |global g=>simp [cX] at hx
 |func f=>simp only[cX,Option.some.injEq] at hx;subst hx;exact .fn f [] [] [] [] .nil .nil
theorem Ik:∀{xs:List Operand} {xs':List AJ.X},(∀x∈xs,EvR ρ t a x)→cXs xs=some xs'→VL ρ (evs t xs') (xs.map a.eval):=by
 intro xs;induction xs with
 |nil=>intro xs' _ h;simp only[cXs,Option.some.injEq] at h;subst h;exact .nil
 |cons x xs ih=>
  intro xs' hq h;simp only[cXs] at h;split at h
  ·rename_i x' l' hx hl;simp only[Option.some.injEq] at h;subst h;exact .cons _ _ _ _ (hq _ (.head _) _ hx) (ih (fun y hy=>hq y (.tail _ hy)) hl)
  ·cases h
inductive eJ (ρ:Ren):Option V→Option Value→Prop
 |none:eJ ρ none none
 |some (v:V) (v':Value) (h:VR ρ v v'):eJ ρ (some v) (some v')
theorem c9 {x:Option Operand} {x':Option AJ.X} (hq:∀y,x=some y→EvR ρ t a y) (hx:cXo x=some x'):eJ ρ (evo t x') (x.map a.eval):=by
 cases x with
 |none=>simp only[cXo,Option.some.injEq] at hx;subst hx;exact .none
 |some x=>
  simp only[cXo] at hx;split at hx
  ·rename_i y hy;simp only[Option.some.injEq] at hx;subst hx;exact .some _ _ (hq x rfl _ hy)
  ·cases hx
theorem Hk (hT:TyOK P X) {ty:Nat} {z:V} (hz:Uf X.T ty=some z):∃i z',P.info? ty=some i∧i.zero=some z'∧VR ρ z z':=by simp only[Uf,Option.bind_eq_bind,Option.bind_eq_some_iff] at hz;obtain ⟨i,hi,z',hz',hv⟩:=hz;exact ⟨i,z',hT.inf _ _ hi,hz',Kn _ _ _ hv⟩
theorem Bs (hT:TyOK P X) {ty n:Nat} (h:Fc X.T ty=some n):∃i,P.info? ty=some i∧i.size=n:=by
 unfold Fc at h;split at h
 ·rename_i i hi;cases h;exact ⟨i,hT.inf _ _ hi,rfl⟩
 ·cases h
theorem C9 (hT:TyOK P X) {ty:Nat} {z:List V} (hz:Mu X.T ty=some z):
  ∃i z',P.info? ty=some i∧i.zero=some z'∧VL ρ z z'.cells.toList∧z.length=i.size∧∀v∈z,v.one=true:=by
 simp only[Mu,Option.bind_eq_bind,Option.bind_eq_some_iff] at hz;obtain ⟨n,hn,v,hv,hz⟩:=hz;obtain ⟨i,hi,hin⟩:=Bs hT hn;obtain ⟨i',z',hi',hz',hr⟩:=Hk (ρ:=ρ) hT hv;rw[hi] at hi';cases hi';have one:∀v:V,VR ρ v z'→v.one=true→(if n=1 then some [v] else none)=some z→VL ρ z z'.cells.toList∧z.length=i.size∧∀v∈z,v.one=true:=by
  intro v hr ho hz;split at hz
  ·rename_i h1;cases hz;refine ⟨?_,by simp [hin,h1],by simp [ho]⟩;have:z'.cells= #[z']:=by have hq:=hr.one;rw[ho] at hq;clear hr hz' hv;cases z'<;>first|rfl|cases hq
   rw[this];exact .cons _ _ _ _ hr .nil
  ·cases hz
 refine ⟨i,z',hi,hz',?_⟩;cases hr with
 |agg l l' hl ho=>
  simp only at hz;split at hz
  ·rename_i h1;cases hz;exact ⟨hl,by rw[h1,hin],ho⟩
  ·cases hz
 |tup=>cases hz
 |int k m=>exact one _ (.int k m) rfl hz
 |bool b=>exact one _ (.bool b) rfl hz
 |str l s hs=>exact one _ (.str l s hs) rfl hz
 |nilp=>exact one _ .nilp rfl hz
 |ptr b o r hr=>exact one _ (.ptr b o r hr) rfl hz
 |nils=>exact one _ .nils rfl hz
 |slc b o l c r hr=>exact one _ (.slc b o l c r hr) rfl hz
 |slo b o l c p r hr hp hf=>exact one _ (.slo b o l c p r hr hp hf) rfl hz
 |nilm=>exact one _ .nilm rfl hz
 |map b r hr=>exact one _ (.map b r hr) rfl hz
 |fn f a c a' c' ha hc=>exact one _ (.fn f a c a' c' ha hc) rfl hz
 |yld b r hr=>exact one _ (.yld b r hr) rfl hz
 |rp l off l' a hr hl ho=>exact one _ (.rp l off l' a hr hl ho) rfl hz
 |rsl l off n c l' a hr hl ho=>exact one _ (.rsl l off n c l' a hr hl ho) rfl hz
 |esl a c=>exact one _ (.esl a c) rfl hz
 |nilf=>exact one _ .nilf rfl hz
 |ifc t v v' hr=>exact one _ (.ifc t v v' hr) rfl hz
 |nili=>exact one _ .nili rfl hz
theorem cL (off:Nat) (vs:List Value):∀(k:Nat) (cs:Array Value),((vs.zipIdx k).foldl (fun cs p=>cs.setIfInBounds (off+p.2) p.1) cs).size=cs.size:=by
 induction vs with
 |nil=>intro k cs;rfl
 |cons v vs ih=>intro k cs;simp only[List.zipIdx_cons,List.foldl_cons];rw[ih];simp
theorem iw (off:Nat) (vs:List Value):∀(k:Nat) (cs:Array Value) (j:Nat),off+k+vs.length≤cs.size→
  ((vs.zipIdx k).foldl (fun cs p=>cs.setIfInBounds (off+p.2) p.1) cs)[j]? =if off+k≤j∧j<off+k+vs.length then vs[j-(off+k)]? else cs[j]? :=by
 induction vs with
 |nil=>intro k cs j _;rw[if_neg (by simp)];rfl
 |cons v vs ih=>
  intro k cs j h;simp only[List.length_cons] at h;simp only[List.zipIdx_cons,List.foldl_cons];rw[ih (k+1) _ j (by simp;omega)];simp only[Array.getElem?_setIfInBounds,List.length_cons];by_cases h1:j=off+k
  ·subst h1;rw[if_neg tO,if_pos rfl,if_pos tO,if_pos tO];simp
  ·by_cases h2:off+(k+1)≤j∧j<off+(k+1)+vs.length
   ·rw[if_pos h2,if_pos tO];rw[show j-(off+k)=(j-(off+(k+1)))+1 by omega];simp
   ·rw[if_neg h2,if_neg tO,if_neg tO]
theorem iv {ρ:Ren} {z q:List V} {cs:Array Value} {vs:List Value} {off:Nat} (hz:VL ρ z cs.toList) (hq:VL ρ q vs) (hle:off+q.length≤z.length):
  VL ρ (lay off z q) ((vs.zipIdx).foldl (fun cs p=>cs.setIfInBounds (off+p.2) p.1) cs).toList:=by
 have hzl:=hz.length;have hql:=hq.length;simp only[Array.length_toList] at hzl;have hle':off+0+vs.length≤cs.size:=tO;refine VL.of_get ?_ fun i v hv=>?_
 ·have hs:=cL off vs 0 cs;rw[←Array.length_toList] at hs;rw[hs,Array.length_toList,←hzl];simp [lay];omega
 ·rw[Array.getElem?_toList,iw off vs 0 cs i hle'];simp only[Nat.add_zero];unfold lay at hv;by_cases h1:i<off
  ·rw[if_neg tO];rw[List.append_assoc,List.getElem?_append_left (by simp;omega),List.getElem?_take_of_lt h1] at hv;obtain ⟨v',hv',hr⟩:=hz.get hv;exact ⟨v',by simpa using hv',hr⟩
  ·by_cases h2:i<off+vs.length
   ·rw[if_pos tO];rw[List.append_assoc,List.getElem?_append_right (by simp;omega),List.length_take,Nat.min_eq_left tO,List.getElem?_append_left tO] at hv;exact hq.get hv
   ·rw[if_neg tO];rw[List.getElem?_append_right (by simp;omega),List.getElem?_drop,List.length_append,List.length_take,Nat.min_eq_left tO] at hv;rw[show off+q.length+(i-(off+q.length))=i by omega] at hv;obtain ⟨v',hv',hr⟩:=hz.get hv;exact ⟨v',by simpa using hv',hr⟩
theorem b7 {z q:List V} {off:Nat} (hz:∀v∈z,v.one=true) (hq:∀v∈q,v.one=true):∀v∈lay off z q,v.one=true:=by
 intro v hv;simp only[lay,List.mem_append] at hv;rcases hv with (h|h)|h
 ·exact hz _ (List.mem_of_mem_take h)
 ·exact hq _ h
 ·exact hz _ (List.mem_of_mem_drop h)
theorem JB {z q:List V} {off:Nat} (h:off+q.length≤z.length):(lay off z q).length=z.length:=by simp [lay];omega
inductive PR (ρ:Ren) (t:T V) (place:Nat→Option (Nat×Nat)):List (Nat×Nat×AJ.X)→List (Nat×Value)→Prop
 |nil:PR ρ t place [] []
 |cons (off sz:Nat) (x:AJ.X) (i:Nat) (v:Value) (l:List (Nat×Nat×AJ.X)) (l':List (Nat×Value)) (hp:place i=some (off,sz)) (hx:VR ρ (ev t x) v) (hl:PR ρ t place l l'):
   PR ρ t place ((off,sz,x)::l) ((i,v)::l')
theorem Ov {place:Nat→Option (Nat×Nat)}:∀{ps:List (Nat×Nat×AJ.X)} {ps':List (Nat×Value)},PR ρ t place ps ps'→∀{z:List V} {cs:Array Value} {c:List V→Bool},VL ρ z cs.toList→
  (∀v∈z,v.one=true)→fill t ps z c=true→∃z' cs',c z'=true∧Instr.fill place cs ps'=some cs'∧VL ρ z' cs'.toList∧(∀v∈z',v.one=true)∧z'.length=z.length:=by
 intro ps ps' hp;induction hp with
 |nil=>intro z cs c hz ho e;exact ⟨z,cs,e,rfl,hz,ho,rfl⟩
 |cons off sz x i v l l' hpl hx hl ih=>intro z cs c hz ho e;simp only[fill] at e;obtain ⟨q,e,hq,hqo⟩:=Gd e hx;obtain ⟨hlen,e⟩:=F1 _ _ _ e;obtain ⟨hle,e⟩:=Ev _ _ _ _ e;obtain ⟨z',cs',hc,hf,hv,ho',hn⟩:=ih (iv hz hq hle) (b7 ho hqo) e;refine ⟨z',cs',hc,?_,hv,ho',by rw[hn,JB hle]⟩;have hql:=hq.length;have hzl:=hz.length;simp only[Array.length_toList] at hql hzl;simp only[Instr.fill,hpl];rw[if_neg (by simp;omega),←hf,←Array.foldl_toList,Array.toList_zipIdx]
theorem UR (hT:TyOK P X) {fields:Array Field} {places:List (Nat×Nat)} (hpl:fields.toList.mapM (fun f=>(P.info? f.type).map fun i=>(f.offset,i.size))=some places):
  ∀{ps:List (Nat×Operand)} {ps':List (Nat×Nat×AJ.X)},MH X.T fields.toList ps=some ps'→(∀p∈ps,EvR ρ t a p.2)→PR ρ t (places.toArray[·]?) ps' (ps.map fun p=>(p.1,a.eval p.2)):=by
 have key:∀(fs:List Field) (pls:List (Nat×Nat)),fs.mapM (fun f=>(P.info? f.type).map fun i=>(f.offset,i.size))=some pls→∀(j:Nat) (f:Field) (i:TypeInfo),fs[j]? =some f→P.info? f.type=some i→pls[j]? =some (f.offset,i.size):=by
  intro fs;induction fs with
  |nil=>intro pls _ j f i hf;simp at hf
  |cons g fs ih=>
   intro pls h j f i hf hi;simp only[List.mapM_cons,Option.bind_eq_bind,Option.bind_eq_some_iff,Option.pure_def,Option.some.injEq] at h;obtain ⟨p,hp,r,hr,rfl⟩:=h;cases j with
   |zero=>simp at hf;subst hf;simp [hi] at hp;simp [hp]
   |succ j=>simpa using ih r hr j f i (by simpa using hf) hi
 intro ps;induction ps with
 |nil=>intro ps' h _;simp only[MH,Option.some.injEq] at h;subst h;exact .nil
 |cons p ps ih=>
  intro ps' h hq;simp only[MH] at h;split at h
  ·rename_i f hf;split at h
   ·rename_i sz x l hsz hx hl;simp only[Option.some.injEq] at h;subst h;obtain ⟨i,hi,rfl⟩:=Bs hT hsz;refine .cons _ _ _ _ _ _ _ ?_ (hq _ (.head _) _ hx) (ih hl fun y hy=>hq y (.tail _ hy));simpa using key _ _ hpl p.1 f i (by simpa using hf) hi
   ·cases h
  ·cases h
theorem HU (sz:Nat):
  ∀{ps:List (Nat×Operand)} {ps':List (Nat×Nat×AJ.X)},Jl sz ps=some ps'→(∀p∈ps,EvR ρ t a p.2)→PR ρ t (fun i=>some (i*sz,sz)) ps' (ps.map fun p=>(p.1,a.eval p.2)):=by
 intro ps;induction ps with
 |nil=>intro ps' h _;simp only[Jl,Option.some.injEq] at h;subst h;exact .nil
 |cons p ps ih=>
  intro ps' h hq;simp only[Jl] at h;split at h
  ·rename_i x l hx hl;simp only[Option.some.injEq] at h;subst h;exact .cons _ _ _ _ _ _ _ rfl (hq _ (.head _) _ hx) (ih hl fun y hy=>hq y (.tail _ hy))
  ·cases h
theorem oH {ty:Nat} {z':Value} {place:Nat→Option (Nat×Nat)} {ps:List (Nat×Nat×AJ.X)} {ps':Array (Nat×Value)} {z:List V} {c:KV}
  (hp:PR ρ t place ps ps'.toList) (hb:∀cs,Instr.fill place z'.cells ps'.toList=some cs→P.built ty ps'.toList=some cs)
  (hz:VL ρ z z'.cells.toList) (ho:∀v∈z,v.one=true) (e:oMk t z ps h c=true):∃x x',c x h=true∧(Instr.build ty ps').run P w=.ok x' w∧VR ρ x x':=by
 obtain ⟨z1,cs,hc,hf,hv,ho1,_⟩:=Ov hp hz ho e;exact ⟨_,_,hc,run_build w ty ps' cs (hb _ hf),.agg _ _ (by simpa using hv) ho1⟩
end
end Go.AJ
namespace Go.AJ
open Go
variable [BN]
section
variable {P:Program} {X:Cx} {ρ:Ren} {h:Hp} {w:World}
theorem JE {q:CK} {x y:V} {x' y':Value} {c:Bool→Bool} {D:TypeDesc} (hq:Hh D=some q) (hx:VR ρ x x') (hy:VR ρ y y') (e:Bk q x y c=true):
  ∃r,c r=true∧Instr.sameNow D x' y'=some r∧(r=true→Instr.sameBits 10000 y' x'=true):=by
 cases q with
 |int=>
  cases hx with
  |int k a=>
   cases hy with
   |int k' b=>
    simp only[Bk] at e;replace e:=Be e;obtain ⟨rfl,e⟩:=e;refine ⟨_,e,?_,?_⟩
    ·cases D<;>simp [Hh] at hq
     simp only[Instr.sameNow,if_true,Ec];rfl
    ·intro hr;rw[Au] at hr;subst hr;simp [Instr.sameBits]
   |_=>simp [Bk] at e
  |_=>simp [Bk] at e
 |str=>
  cases hx with
  |str a s hs=>
   cases hy with
   |str b u hu=>
    change Db s=a at hs;change Db u=b at hu;subst hs hu;refine ⟨_,by simpa only[Bk] using e,?_,?_⟩
    ·cases D<;>simp [Hh] at hq
     simp only[Instr.sameNow,E0,beq_toListBytes]
    ·intro hr;rw[E0] at hr;have:u.toList=s.toList:=(eq_of_beq hr).symm;simp only[Instr.sameBits];rw[beq_toListBytes,this];exact beq_self_eq_true _
   |_=>simp [Bk] at e
  |_=>simp [Bk] at e
 |bool=>
  cases hx with
  |bool a=>
   cases hy with
   |bool b=>
    refine ⟨a==b,?_,?_,?_⟩
    ·cases a<;>simpa [Bk] using e
    ·cases D<;>simp [Hh] at hq
     rfl
    ·intro hr;have:a=b:=eq_of_beq hr;subst this;simp [Instr.sameBits]
   |_=>simp [Bk] at e
  |_=>simp [Bk] at e
theorem bQ {q:CK} {D:TypeDesc} (hq:Hh D=some q) {k z:V} {k' z':Value} {c:V→Bool→Bool} (hk:VR ρ k k') (hz:VR ρ z z'):
  ∀{es:List ME} {es':List MapEntry} (i:Nat),MR ρ es es'→F0 q k z es c=true→
  ∃r,Instr.findNow D k' es' i=some r∧∃v v' b,c v b=true∧VR ρ v v'∧(match r with|none=>v'=z'∧b=false|some p=>v'=p.2∧b=true):=by
 intro es;induction es with
 |nil=>intro es' i hm e;cases hm;exact ⟨none,rfl,z,z',false,by simpa only[F0] using e,hz,rfl,rfl⟩
 |cons x es ih=>
  intro es' i hm e;cases hm with
  |cons ek ev ek' ev' b l l' hek hev hl=>
   simp only[F0] at e;obtain ⟨r,hc,hs,_⟩:=JE hq hk hek e;cases r with
   |true=>exact ⟨some (i,ev'),by simp [Instr.findNow,hs],ev,ev',true,hc,hev,rfl,rfl⟩
   |false=>obtain ⟨r,hr,rest⟩:=ih (i+1) hl hc;exact ⟨r,by simp [Instr.findNow,hs,hr],rest⟩
theorem cH {ok:Bool} {v:V} {v':Value} {b:Bool} (hv:VR ρ v v'):VR ρ (got ok v b) (if ok then .tuple #[v',.bool b] else v'):=by
 cases ok with
 |true=>exact .tup _ _ (.cons _ _ _ _ hv (.cons _ _ _ _ (.bool b) .nil))
 |false=>exact hv
theorem Dt {em:Bool} {n kt:Nat} {D:TypeDesc} {q:CK} (hu:P.underlying kt=some D) (hq:Hh D=some q) (v:Value) (w:World):(Instr.checkKey em (n+1) kt v).run P w=.ok () w:=by simp only[Instr.checkKey,Sem.run_bind,run_underlying hu,Result.andThen_ok];cases D<;>simp [Hh] at hq<;>simp
theorem HO {kt:Nat} {D:TypeDesc} (hu:P.underlying kt=some D) {k:Value} {es:List MapEntry} {r:Option (Nat×Value)} (hf:Instr.findNow D k es 0=some r) (w:World):
  (Instr.findKey kt k es).run P w=.ok r w:=by
 simp [Instr.findKey,run_underlying hu,hf]
theorem RK {q:CK} {ty kt el:Nat} {D:TypeDesc} {m k z:V} {m' k' z':Value} {ok:Bool} {c:KV} {i:TypeInfo} (H:HR X ρ h w) (hu:P.underlying ty=some (.map kt el)) (huk:P.underlying kt=some D)
  (hq:Hh D=some q) (hi:P.info? el=some i) (hzz:i.zero=some z') (hm:VR ρ m m') (hk:VR ρ k k') (hz:VR ρ z z') (e:DX q m k z ok h c=true):
  ∃x x',c x h=true∧(Instr.lookup ty m' k' ok).run P w=.ok x' w∧VR ρ x x':=by
 cases hm with
 |nilm=>refine ⟨_,_,e,?_,cH hz⟩;simp [Instr.lookup,run_underlying hu,Dt (n:=9999) huk hq,Instr.findKey,run_underlying huk,Instr.findNow,AQ hi hzz]
 |map b r hr=>
  simp only[DX] at e;split at e
  ·rename_i es clock hb;obtain ⟨o,ho,hbr⟩:=H.live b r (by rw[hb];simp) hr;rw[hb] at hbr;obtain ⟨es',rfl,hmr⟩:=hbr;obtain ⟨res,hf,v,v',bb,hc,hv,hres⟩:=bQ hq hk hz 0 hmr e;refine ⟨_,_,hc,?_,cH hv⟩;have hg:(getObj r.blk).run P w=.ok (.map es' clock) w:=by simp [getObj,Sem.run,ho]
   have hfk:=HO (P:=P) huk hf w;cases res with
   |none=>obtain ⟨rfl,rfl⟩:=hres;simp [Instr.lookup,run_underlying hu,Dt (n:=9999) huk hq,hg,hfk,AQ hi hzz]
   |some p=>obtain ⟨rfl,rfl⟩:=hres;simp [Instr.lookup,run_underlying hu,Dt (n:=9999) huk hq,hg,hfk]
  ·cases e
 |_=>simp [DX] at e
theorem sU {x z:V} {x' z':Value} {ty xt:Nat} {D:TypeDesc} {ok:Bool} {c:KV} {i:TypeInfo} (hu:P.underlying ty=some D) (hni:∀ms,D≠.interface ms) (hi:P.info? ty=some i) (hzz:i.zero=some z')
  (hx:VR ρ x x') (hz:VR ρ z z') (e:za x ty z ok h c=true):∃y y',c y h=true∧(Instr.typeAssert x' xt ty ok).run P w=.ok y' w∧VR ρ y y':=by
 have fails:∀(v:Value) (hv:v=.nilIface∨∃t' v',v=.iface t' v'∧t'≠ty),ok=true→c (.tup [z,.bool false]) h=true→
   ∃y y',c y h=true∧(Instr.typeAssert v xt ty ok).run P w=.ok y' w∧VR ρ y y':=by
  intro v hv hok e1;subst hok;refine ⟨_,.tuple #[z',.bool false],e1,?_,.tup _ _ (.cons _ _ _ _ hz (.cons _ _ _ _ (.bool false) .nil))⟩;rcases hv with rfl|⟨t',v',rfl,hne⟩
  ·simp only[Instr.typeAssert,Sem.run_bind,run_underlying hu,Result.andThen_ok];cases D<;>first|exact absurd rfl (hni _)|simp [AQ hi hzz]
  ·simp only[Instr.typeAssert,Sem.run_bind,run_underlying hu,Result.andThen_ok];cases D<;>first|exact absurd rfl (hni _)|simp [AQ hi hzz,hne]
 cases hx with
 |nili=>
  simp only[za] at e;cases ok with
  |true=>exact fails _ (.inl rfl) rfl e
  |false=>cases e
 |ifc t' v v' hv=>
  simp only[za] at e;cases hq:Nat.beq ty t' with
  |true=>rw[hq] at e;have:=Nat.eq_of_beq_eq_true hq;subst this;refine ⟨_,_,e,?_,cH hv⟩;simp only[Instr.typeAssert,Sem.run_bind,run_underlying hu,Result.andThen_ok];cases D<;>first|exact absurd rfl (hni _)|simp
  |false=>
   rw[hq] at e;have hne:t'≠ty:=fun e=>by subst e;simp at hq
   cases ok with
   |true=>exact fails _ (.inr ⟨_,_,rfl,hne⟩) rfl e
   |false=>cases e
 |_=>simp [za] at e
def Fo (v:Option Value) (most d:Nat) (code:BoundsCode):Sem Nat:=match v with
 |some x=>Instr.sliceBound x most code
 |none=>pure d
theorem BK {v:Option V} {v':Option Value} {most d M:Nat} {c:Nat→Bool} (hv:eJ ρ v v') (e:bnd v most d c=true) (hM:most≤M) (code:BoundsCode) (w:World):
  ∃n,c n=true∧(Fo v' M d code).run P w=.ok n w∧(v=none→n=d)∧(v≠none→n≤most):=by
 cases hv with
 |none=>exact ⟨d,e,by simp [Fo],fun _=>rfl,fun h=>absurd rfl h⟩
 |some v v' hv=>
  cases hv with
  |int k n=>
   cases n with
   |negSucc m=>simp [bnd] at e
   |ofNat m=>
    simp only[bnd] at e;split at e
    ·rename_i hm;have hm:=Nat.le_of_ble_eq_true hm;refine ⟨m,e,?_,by simp,fun _=>hm⟩;simp only[Fo,Instr.sliceBound,asIntOf,Sem.run_bind,Sem.run_pure,Result.andThen_ok];rw[if_pos ⟨by simp,by simp;omega⟩];simp
    ·cases e
  |_=>simp [bnd] at e
theorem FK {isS:Bool} {len cp n l:Nat} {lo hi:Option Value} (hn:(Fo hi cp len (if isS then .sliceAcap else .sliceAlen)).run P w=.ok n w)
  (hl:(Fo lo n 0 .sliceB).run P w=.ok l w):(Instr.sliceBounds isS len cp lo hi none).run P w=.ok (l,n,cp) w:=by
 cases hi<;>cases lo<;>simp_all [Instr.sliceBounds,Fo]
theorem Lm {isS:Bool} {len cp n l m d d':Nat} {lo:Option Value} {hi mx:Value} (hm:(Fo (some mx) cp d (if isS then .slice3Acap else .slice3Alen)).run P w=.ok m w) (hn:(Fo (some hi) m d' .slice3B).run P w=.ok n w)
  (hl:(Fo lo n 0 .slice3C).run P w=.ok l w):(Instr.sliceBounds isS len cp lo (some hi) (some mx)).run P w=.ok (l,n,m) w:=by
 cases lo<;>simp_all [Instr.sliceBounds,Fo]
theorem RH {x:V} {x':Value} {lo hi:Option V} {lo' hi':Option Value} {t:Nat} {c:KV} (hu:P.underlying t=some .string) (hx:VR ρ x x') (hl:eJ ρ lo lo') (hh:eJ ρ hi hi')
  (e:DV x lo hi h c=true):∃z z',c z h=true∧(Instr.sliceAt t x' lo' hi' none).run P w=.ok z' w∧VR ρ z z':=by
 cases hx with
 |str a s hs=>
  change Db s=a at hs;subst hs;simp only[DV,AF,CN,B9] at e;obtain ⟨n,e,hn,h1,h2⟩:=BK (P:=P) hh e (Nat.le_refl _) .sliceAlen w;obtain ⟨l,e,hl',h3,h4⟩:=BK (P:=P) hl e (Nat.le_refl _) .sliceB w;have hns:n≤s.size:=by
   cases hh with
   |none=>rw[h1 rfl];exact Nat.le_refl _
   |some v v' hv=>exact h2 (by simp)
  have hln:l≤n:=by
   cases hl with
   |none=>rw[h3 rfl];exact Nat.zero_le _
   |some v v' hv=>exact h4 (by simp)
  refine ⟨_,.string (s.extract l n),e,?_,.str _ _ ?_⟩
  ·simp [Instr.sliceAt,run_underlying hu,Instr.slice,FK (isS:=false) hn hl']
  ·rw[E7,Pg];have:(s.extract l n).data.toList=(s.data.toList.take n).drop l:=by rw[ByteArray.data_extract,Array.toList_extract,List.extract_eq_take_drop,List.drop_take]
   simp only[Db,this,List.map_drop,List.map_take]
 |_=>simp [DV] at e
end
end Go.AJ
