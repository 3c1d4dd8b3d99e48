import PyProof.Rows.All
import Wide.All
import OpenK.AllK
import Wide.FinOn
import Lean
import PySem.Challenge.RW_nt0311_01
set_option Elab.async false
set_option maxRecDepth 100000
set_option linter.all false
set_option genInjectivity false
set_option genSizeOf false
set_option bootstrap.genMatcherCode false
section
open PySem PySem.W PyProof.Rows
namespace Mine
noncomputable def topRunT (tb:String→Option Builtin) (p:Program) (w:World) (n₀:Nat) (ann:Option Value):Nat→SharedT→Thread→Option SharedT
  | 0,_,_=>none
  | n+1,s,t=>match through t with
    | true=>some s
    | false=>match stepOk n₀ ann t with
      | false=>none
      | true=>match stepT (denote tb) p w s t with
        | some (s',t')=>topRunT tb p w n₀ ann n s' t'
        | none=>none
theorem topRun_of {tb:String→Option Builtin}{p:Program}{w:World}{n₀:Nat}{ann:Option Value}:∀ {n:Nat}{s s':SharedT}{t:Thread},
    topRunT tb p w n₀ ann n s t=some s'→topRun tb p w n₀ ann n s.abs t=some s'.abs
  | 0,_,_,_,h=>by cases h
  | n+1,s,s',t,h=>by
    unfold topRunT at h
    unfold topRun
    cases ht:through t with
    | true=>rw [ht] at h;cases h;rfl
    | false =>
      rw [ht] at h
      cases hk:stepOk n₀ ann t with
      | false=>rw [hk] at h;cases h
      | true =>
        rw [hk] at h
        cases hs:stepT (denote tb) p w s t with
        | none=>rw [hs] at h;cases h
        | some x =>
          obtain ⟨s₂,t₂⟩:=x
          rw [hs] at h
          rw [stepT_spec hs]
          exact topRun_of h
noncomputable def topRunQ (p:Program) (w:World) (n₀:Nat) (ann:Option Value):Nat→SharedT→Thread→Option SharedT
  | 0,_,_=>none
  | n+1,s,t=>match through t with
    | true=>some s
    | false=>match PySem.W.Fast.tw6613529449190102663 n₀ ann t with
      | false=>none
      | true=>match PySem.W.Fast.tw10156331382660048174 (PySem.W.Fast.tw11892475500146522536 PySem.W.Fast.tw14364793385576792824) p w s t with
        | some (s',t')=>topRunQ p w n₀ ann n s' t'
        | none=>none
theorem topRunQ_eq {p:Program}{w:World}{n₀:Nat}{ann:Option Value}:∀ (n:Nat) (s:SharedT) (t:Thread),topRunT treeTable p w n₀ ann n s t=topRunQ p w n₀ ann n s t
  | 0,_,_=>rfl
  | n+1,s,t=>by
    unfold topRunT topRunQ
    rw [← PySem.W.Fast.te6613529449190102663,← PySem.W.Fast.te10156331382660048174,← PySem.W.Fast.te11892475500146522536,← PySem.W.Fast.te14364793385576792824]
    simp only [topRunQ_eq n]
noncomputable abbrev pw:Program:=PySem.Challenge.pw_nt0311_01
noncomputable def bootT (P:Params):BT :=
  ((((((((((BT.nil.ins 0 (boot_o_0 P)).ins 1 (boot_o_1 P)).ins 2 (boot_o_2 P)).ins 3 (boot_o_3 P)).ins 4 (boot_o_4 P)).ins 5 (boot_o_5 P)).ins 6 (boot_o_6 P)).ins 7 (boot_o_7 P)).ins 8 (boot_o_8 P)).ins 9 (boot_o_9 P)).ins 10 (boot_o_10 P)
noncomputable def boot (w:World) (os:OsState):SharedT:=⟨bootT w.params,11,(boot_heap w.params).life,Array.mk [],boot_drawn,boot_toks,os⟩
noncomputable def ann0:Option Value:=some (.ref 6)
theorem boot_abs (w:World) (os:OsState):(boot w os).abs=⟨boot_heap w.params,Array.mk [],boot_drawn,boot_toks,os⟩:=by kernel_rfl
theorem boot_size (w:World):((boot_heap w.params).isNs mainGlobals && (Array.mk []:Array GenState).size == 0,(boot_heap w.params).objs.size,(boot_heap w.params).nsMap mainGlobals "__annotations__")=(true,11,ann0):=by kernel_rfl
noncomputable def looksAt (q:Program) (loose:List PySem.Str) (Xt:Shared→Bool) (w:World) (s:Shared) :=
  ((staticsOk (importedModules pw.main.body) (boot_heap w.params) s.heap && namesBound pw s.heap && gensDone s && laidKept (boot_heap w.params) s.heap),
    openSeen q loose (importedModules pw.main.body) Xt true s)
theorem left_of_tree {q:Program}{loose:List PySem.Str}{Xt:Shared→Bool}{N M:Nat}
    (e:opening pw=plainProg pw.main.scope.names) (hN:Nat.ble 600 N=true) (f:∀ s,fenceModules? pw s=some s) (le:Nat.ble M N=true)
    (h:∀ (w:World) (os:OsState),(topRunT treeTable pw w 11 ann0 M (boot w os) (topStub pw)).map (fun s=>looksAt q loose Xt w s.abs)=some (true,openGood q loose)) :
    LeftO pw q loose Xt (fun _=>()) (fun _=>()) N:=fun w=>by
  obtain ⟨⟨h₀,gs,d,k,os⟩,e1,e2⟩:=Option.map_eq_some_iff.mp (boot_open e hN f w)
  obtain ⟨rfl,rfl,rfl,rfl⟩:h₀=boot_heap w.params∧gs=Array.mk []∧d=boot_drawn∧k=boot_toks:=by simpa using e2
  obtain ⟨sT,r1,r2⟩:=Option.map_eq_some_iff.mp (h w os)
  obtain ⟨l1,l2⟩:=Prod.mk.inj r2
  obtain ⟨z1,z2,z3⟩:_∧_∧_:=by simpa only [Prod.mk.injEq] using boot_size w
  have r:=topRun_of r1
  rw [boot_abs] at r
  have r:=topRun_mono (N - M) _ _ _ _ r
  rw [show M+(N - M)=N by have:=Nat.le_of_ble_eq_true le;omega] at r
  have t:topFrom treeTable pw w N ⟨boot_heap w.params,Array.mk [],boot_drawn,boot_toks,os⟩=some sT.abs:=by
    unfold topFrom
    dsimp only
    rw [z1,z2,z3,r]
    show (match staticsOk (importedModules pw.main.body) (boot_heap w.params) sT.abs.heap && namesBound pw sT.abs.heap && gensDone sT.abs && laidKept (boot_heap w.params) sT.abs.heap with | true=>_ | false=>_)=_
    rw [l1]
  unfold openEnds
  rw [e1]
  show (topFrom treeTable pw w N _).map _=_
  rw [t]
  exact congrArg some (Prod.ext l2 rfl)
noncomputable def qv:Program:=view pw [57]
noncomputable def looseL:List PySem.Str:=(["_wall","BLOB","TREE","COMMIT","FILE","EXEC","LINK","DIR","SUB","HEX_SIGNS","GitError","BadObject","MissingObject","octets_of","hex_of","big_endian","CountingHasher","WANTED","HIDDEN","RankQueue","WalkedCommit","walked_once","passed_whole","passed_first","Ancestry","MergeBases","Orders","Walk","OBJECT_MODES","object_has_sign","object_are_all","Person","object_name_fault","Tree","tree_faults","check_tree","object_head_row","Commit","object_octets","MemoryStore","_law_deck","_law_draw","_law_pick","_law_drawn_rows","_law_times","_law_reached","_law_rows","_law_committed","_law_best","_law_pair_right","_law_lot_right","_law_border_right"]:List String).map PySem.Str.ofString
noncomputable def Xt0:Shared→Bool:=fun _=>true
theorem run_ok:∀ (w:World) (os:OsState),(topRunT treeTable pw w 11 ann0 6300 (boot w os) (topStub pw)).map (fun s=>looksAt qv looseL Xt0 w s.abs)=some (true,openGood qv looseL):=by
  intro w os
  rw [topRunQ_eq]
  kernel_rfl
end Mine
end
section
open PySem
namespace Mine
inductive Fd where
  | rows | came | size | known | hasher | kept | store | shallow | levels | parents | tree | date | name | email | when | zone | entries | author | committer | extra | message
  deriving DecidableEq
inductive Cls where
  | CountingHasher | RankQueue | WalkedCommit | Walk | Person | Tree | Commit | MemoryStore
  deriving DecidableEq
abbrev Fn:=Nat
namespace Fn
noncomputable abbrev octets_of:Fn:=nat_lit 0
noncomputable abbrev hex_of:Fn:=nat_lit 1
noncomputable abbrev big_endian:Fn:=nat_lit 2
noncomputable abbrev hash_init:Fn:=nat_lit 3
noncomputable abbrev digest:Fn:=nat_lit 4
noncomputable abbrev rq_init:Fn:=nat_lit 5
noncomputable abbrev many:Fn:=nat_lit 6
noncomputable abbrev put:Fn:=nat_lit 7
noncomputable abbrev take:Fn:=nat_lit 8
noncomputable abbrev sink:Fn:=nat_lit 9
noncomputable abbrev wc_init:Fn:=nat_lit 10
noncomputable abbrev walked_once:Fn:=nat_lit 11
noncomputable abbrev passed_whole:Fn:=nat_lit 12
noncomputable abbrev anc_init:Fn:=nat_lit 13
noncomputable abbrev walked:Fn:=nat_lit 14
noncomputable abbrev parents:Fn:=nat_lit 15
noncomputable abbrev date:Fn:=nat_lit 16
noncomputable abbrev level:Fn:=nat_lit 17
noncomputable abbrev painted:Fn:=nat_lit 18
noncomputable abbrev is_ancestor:Fn:=nat_lit 19
noncomputable abbrev best_common:Fn:=nat_lit 20
noncomputable abbrev merge_bases:Fn:=nat_lit 21
noncomputable abbrev merge_bases_many:Fn:=nat_lit 22
noncomputable abbrev independent:Fn:=nat_lit 23
noncomputable abbrev ahead_behind:Fn:=nat_lit 24
noncomputable abbrev person_init:Fn:=nat_lit 25
noncomputable abbrev person_octets:Fn:=nat_lit 26
noncomputable abbrev tree_init:Fn:=nat_lit 27
noncomputable abbrev tree_octets:Fn:=nat_lit 28
noncomputable abbrev tree_faults:Fn:=nat_lit 29
noncomputable abbrev check_tree:Fn:=nat_lit 30
noncomputable abbrev commit_init:Fn:=nat_lit 31
noncomputable abbrev commit_octets:Fn:=nat_lit 32
noncomputable abbrev object_octets:Fn:=nat_lit 33
noncomputable abbrev store_init:Fn:=nat_lit 34
noncomputable abbrev keep:Fn:=nat_lit 35
noncomputable abbrev write_tree:Fn:=nat_lit 36
noncomputable abbrev write_commit:Fn:=nat_lit 37
noncomputable abbrev row_of:Fn:=nat_lit 38
noncomputable abbrev of_kind:Fn:=nat_lit 39
noncomputable abbrev store_commit:Fn:=nat_lit 40
noncomputable abbrev deck:Fn:=nat_lit 41
noncomputable abbrev draw:Fn:=nat_lit 42
noncomputable abbrev pick:Fn:=nat_lit 43
noncomputable abbrev drawn_rows:Fn:=nat_lit 44
noncomputable abbrev times:Fn:=nat_lit 45
noncomputable abbrev reached:Fn:=nat_lit 46
noncomputable abbrev rows:Fn:=nat_lit 47
noncomputable abbrev committed:Fn:=nat_lit 48
noncomputable abbrev best:Fn:=nat_lit 49
noncomputable abbrev pair_right:Fn:=nat_lit 50
noncomputable abbrev lot_right:Fn:=nat_lit 51
noncomputable abbrev border_right:Fn:=nat_lit 52
noncomputable abbrev law:Fn:=nat_lit 53
noncomputable abbrev passed:Fn:=nat_lit 54
end Fn
noncomputable def nthD {α:Type} (d:α) (l:List α):Nat→α:=List.rec (motive:=fun _=>Nat→α) (fun _=>d) (fun a _ ih n=>Nat.rec (motive:=fun _=>α) a (fun m _=>ih m) n) l
inductive V where
  | none
  | bool (b:Bool)
  | int (i:Int)
  | str (s:List Nat)
  | bytes (b:List UInt8)
  | tup (vs:List V)
  | flist (vs:List V)
  | ref (i:Nat)
  | inst (c:Cls) (i:Nat)
  | fn (f:Fn)
  | clo (cells:List Nat)
  | cel (i:Nat)
inductive K where
  | s (x:List Nat)
  | i (x:Int)
  | b (x:List UInt8)
  deriving DecidableEq
theorem K.s.inj {a b:List Nat} (h:K.s a=K.s b):a=b:=by injection h
theorem K.i.inj {a b:Int} (h:K.i a=K.i b):a=b:=by injection h
theorem K.b.inj {a b:List UInt8} (h:K.b a=K.b b):a=b:=by injection h
theorem V.cel.inj {a b:Nat} (h:V.cel a=V.cel b):a=b:=by injection h
theorem V.fn.inj {a b:Fn} (h:V.fn a=V.fn b):a=b:=by injection h
theorem V.clo.inj {a b:List Nat} (h:V.clo a=V.clo b):a=b:=by injection h
noncomputable def V.key:V→Option K
  | .str s=>some (.s s)
  | .int i=>some (.i i)
  | .bytes b=>some (.b b)
  | _=>Option.none
noncomputable def K.sameKind:K→K→Bool
  | K.s _,K.s _=>true
  | K.i _,K.i _=>true
  | K.b _,K.b _=>true
  | _,_=>false
noncomputable def K.val:K→V
  | .s x=>.str x
  | .i x=>.int x
  | .b x=>.bytes x
inductive AObj where
  | list (vs:List V)
  | dict (kvs:List (K × V))
  | flds (c:Cls) (fs:List (Fd × V))
  | cell (v:Option V)
  | tab (b:Bool)
  | buf
abbrev AH:=List AObj
inductive Op where
  | add | sub | mul | fdiv | mod | bor | band | shl | shr
  deriving DecidableEq
inductive Cm where
  | eq | ne | lt | le | gt | ge | isin | nin
  deriving DecidableEq
set_option genCtorIdx false in
mutual
inductive E where
  | c (v:V)
  | l (k:Nat)
  | lc (k:Nat)
  | bin (op:Op) (a b:E)
  | neg (a:E)
  | cmp (o:Cm) (a b:E)
  | ite (t:T) (a b:E)
  | attr (a:E) (f:Fd)
  | sub (a i:E)
  | upto (a hi:E)
  | rev (a:E)
  | tup (es:List E)
  | lst (es:List E)
  | dct (kvs:List (E × E))
  | fn (f:Fn) (es:List E)
  | me (o:E) (f:Fn) (es:List E)
  | new (c:Cls) (es:List E)
  | var (k:Nat) (es:List E)
  | len (a:E)
  | tuple (a:E)
  | toInt (a:E)
  | toBytes (a:E)
  | ord (a:E)
  | sorted (a:E)
  | max (a:E)
  | str (a:E)
  | repr (a:E)
  | listOf (a:E)
  | listRange (a:E)
  | app (o x:E)
  | pop (o:E)
  | popAt (o i:E)
  | ext (o x:E)
  | join (o:V) (x:E)
  | comp (elt:E) (own:Nat) (it:It) (cond:Option T)
inductive T where
  | e (a:E)
  | not (t:T)
  | and (a b:T)
  | or (a b:T)
  | cmp (o:Cm) (a b:E)
inductive It where
  | ex (a:E)
  | range (a:E)
  | enum (a:E)
  | zip (a b:E)
end
set_option genCtorIdx false in
inductive Tg where
  | v (k:Nat)
  | vc (k:Nat)
  | tup (ts:List Tg)
  | at (o:E) (f:Fd)
  | sb (o i:E)
set_option genCtorIdx false in
inductive S where
  | asg (t:Tg) (e:E)
  | aug (o:E) (f:Fd) (op:Op) (e:E)
  | ex (e:E)
  | ite (t:T) (a b:List S)
  | for (t:Tg) (it:It) (b:List S)
  | while (t:T) (b:List S)
  | ret (e:E)
  | cont
  | defc (k:Nat) (cells:List Nat)
  | stuck
abbrev Loc:=List (Option V)
set_option genCtorIdx false in
inductive Iter where
  | vals (vs:List V)
  | live (i:Nat)
  | enum (i:Nat)
  | zip (i j k:Nat)
abbrev CM (α:Type):=AH→(α→AH→Prop)→Prop
abbrev CS:=AH→(Loc→AH→Prop)→(V→AH→Prop)→(Loc→AH→Prop)→Prop
noncomputable def optK {α:Type} (o:Option α) (Q:α→Prop):Prop:=match o with
  | some a=>Q a
  | none=>False
noncomputable def optB {α:Type} (o:Option α) (N:Prop) (Q:α→Prop):Prop:=match o with
  | some a=>Q a
  | none=>N
noncomputable def iteB (r:Bool) (a b:Prop):Prop:=match r with
  | true=>a
  | false=>b
noncomputable def V.onInt (v:V) (k:Int→Prop):Prop:=match v with
  | .int i=>k i
  | _=>False
noncomputable def V.onRef (v:V) (k:Nat→Prop):Prop:=match v with
  | .ref i=>k i
  | _=>False
noncomputable def V.onBytes (v:V) (k:List UInt8→Prop):Prop:=match v with
  | .bytes i=>k i
  | _=>False
noncomputable def V.onStr (v:V) (k:List Nat→Prop):Prop:=match v with
  | .str i=>k i
  | _=>False
noncomputable def V.onTup (v:V) (k:List V→Prop):Prop:=match v with
  | .tup i=>k i
  | _=>False
noncomputable def V.onBool (v:V) (k:Bool→Prop):Prop:=match v with
  | .bool i=>k i
  | _=>False
noncomputable def V.onInst (v:V) (k:Cls→Nat→Prop):Prop:=match v with
  | .inst c i=>k c i
  | _=>False
noncomputable def AObj.onList (o:AObj) (k:List V→Prop):Prop:=match o with
  | .list vs=>k vs
  | _=>False
noncomputable def AObj.onDict (o:AObj) (k:List (K × V)→Prop):Prop:=match o with
  | .dict vs=>k vs
  | _=>False
noncomputable def lstK (H:AH) (i:Nat) (Q:List V→Prop):Prop:=optK H[i]? fun o=>o.onList Q
noncomputable def dctK (H:AH) (i:Nat) (Q:List (K × V)→Prop):Prop:=optK H[i]? fun o=>o.onDict Q
noncomputable def fldK (H:AH) (c:Cls) (i:Nat) (Q:List (Fd × V)→Prop):Prop:=optK H[i]? fun o=>match o with
  | .flds c' fs=>c'=c∧Q fs
  | _=>False
noncomputable def celK (H:AH) (i:Nat) (Q:Option V→Prop):Prop:=optK H[i]? fun o=>match o with
  | .cell v=>Q v
  | _=>False
noncomputable def lim:Nat:=100000
noncomputable def mulOk (a b:Int):Bool:=decide (a.natAbs < 2 ^ 60) || decide (b.natAbs < 2 ^ 60)
noncomputable def newK (o:AObj) (H:AH) (Q:Nat→AH→Prop):Prop:=Q H.length (H++[o])
noncomputable def newList (vs:List V):CM V:=fun H Q=>vs.length≤lim∧Q (.ref H.length) (H++[.list vs])
noncomputable def V.onCel (v:V) (k:Nat→Prop):Prop:=match v with
  | .cel i=>k i
  | _=>False
noncomputable def notCel (v:V):Bool:=match v with
  | .cel _=>false
  | _=>true
noncomputable def notCelO (o:Option V):Bool:=match o with
  | some v=>notCel v
  | none=>true
noncomputable def locK (o:Option (Option V)) (Q:V→Prop):Prop:=optK o fun o=>optK o fun v=>notCel v=true∧Q v
noncomputable def intOp:Op→Int→Int→Option Int
  | .add,a,b=>some (a+b)
  | .sub,a,b=>some (a - b)
  | .mul,a,b=>if mulOk a b then some (a * b) else none
  | .fdiv,a,b=>if 0 < b∧b < 1000 then some (Int.fdiv a b) else none
  | .mod,a,b=>if b=0 then none else some (Int.fmod a b)
  | .bor,a,b=>if 0≤a∧0≤b then some ((a.toNat ||| b.toNat:Nat):Int) else none
  | .band,a,b=>if 0≤a∧0≤b then some ((a.toNat &&& b.toNat:Nat):Int) else none
  | .shl,a,b=>if 0≤a∧a < 1000∧0≤b∧b < 64 then some (a * 2 ^ b.toNat) else none
  | .shr,a,b=>if 0≤a∧0≤b∧b < 64 then some (Int.fdiv a (2 ^ b.toNat)) else none
noncomputable def rep (vs:List V):Nat→List V
  | 0=>[]
  | n+1=>vs++rep vs n
noncomputable def binV (op:Op) (a b:V):CM V:=fun H Q =>
  (a.onInt fun x=>b.onInt fun y=>optK (intOp op x y) fun r=>Q (.int r) H) ∨
  (op = .add∧a.onBytes fun x=>b.onBytes fun y=>x.length+y.length≤lim∧Q (.bytes (x++y)) H) ∨
  (op = .add∧a.onRef fun i=>b.onRef fun j=>lstK H i fun xs=>lstK H j fun ys=>newList (xs++ys) H Q) ∨
  (op = .mul∧a.onRef fun i=>b.onInt fun n=>lstK H i fun xs=>(0≤n∧n≤1000∧xs.length≤1)∧newList (rep xs n.toNat) H Q)
noncomputable def eqP (a b:V):Option Bool:=match a with
  | .int x=>(match b with | .int y=>some (x == y) | _=>none)
  | .bytes x=>(match b with | .bytes y=>some (x == y) | _=>none)
  | .str x=>(match b with | .str y=>some (x == y) | _=>none)
  | _=>none
noncomputable def andO (a b:Option Bool):Option Bool:=a.bind fun x=>b.map fun y=>x && y
noncomputable def eqPs:List V→List V→Option Bool
  | [],b=>(match b with | []=>some true | _ :: _=>none)
  | a :: r,b=>(match b with | []=>none | b :: t=>andO (eqP a b) (eqPs r t))
noncomputable def eqSeq (xs ys:List V):Option Bool:=if xs.length=ys.length then eqPs xs ys else some false
noncomputable def eqV (a b:V):CM Bool:=fun H Q =>
  (a.onRef fun i=>b.onRef fun j=>lstK H i fun xs=>lstK H j fun ys=>optK (eqSeq xs ys) fun r=>Q r H) ∨
  (a.onTup fun xs=>b.onTup fun ys=>xs.length=ys.length∧optK (eqPs xs ys) fun r=>Q r H) ∨
  optK (eqP a b) fun r=>Q r H
noncomputable def ltK (orEq:Bool) (a b:V) (Q:Bool→Prop):Prop :=
  (a.onInt fun x=>b.onInt fun y=>Q (if orEq then decide (x≤y) else decide (x < y))) ∨
  (a.onTup fun xs=>b.onTup fun ys=>∃ x y u v,xs=[.int x,.int y]∧ys=[.int u,.int v]∧Q (if x=u then (if orEq then decide (y≤v) else decide (y < v)) else decide (x < u)))
noncomputable def orO (a b:Option Bool):Option Bool:=a.bind fun x=>b.map fun y=>x || y
noncomputable def anyEq (v:V):List V→Option Bool
  | []=>some false
  | x :: r=>orO (eqP x v) (anyEq v r)
noncomputable def inV (a b:V):CM Bool:=fun H Q=>b.onRef fun i=>optK H[i]? fun o =>
  (o.onList fun vs=>optK (anyEq a vs) fun r=>Q r H) ∨
  (o.onDict fun kvs=>optK a.key fun k=>kvs.all (fun e=>e.1.sameKind k)=true∧Q (kvs.lookup k).isSome H)
noncomputable def cmpB (o:Cm) (a b:V):CM Bool:=fun H Q=>match o with
  | .eq=>eqV a b H Q
  | .ne=>eqV a b H fun r H=>Q (!r) H
  | .lt=>ltK false a b fun r=>Q r H
  | .le=>ltK true a b fun r=>Q r H
  | .gt=>a.onInt fun x=>b.onInt fun y=>Q (decide (y < x)) H
  | .ge=>a.onInt fun x=>b.onInt fun y=>Q (decide (y≤x)) H
  | .isin=>inV a b H Q
  | .nin=>inV a b H fun r H=>Q (!r) H
noncomputable def getF (v:V) (f:Fd):CM V:=fun H Q=>v.onInst fun c i=>fldK H c i fun fs=>optK (fs.lookup f) fun x=>Q x H
noncomputable def rdList (v:V) (H:AH) (P:Prop):Prop:=v.onRef fun i=>lstK H i fun _=>P
noncomputable def fieldsOf:Cls→List Fd
  | .CountingHasher=>[.size,.known] | .RankQueue=>[.rows,.came] | .WalkedCommit=>[.parents,.tree,.date] | .Walk=>[.store,.shallow,.known,.levels] | .Person=>[.name,.email,.when,.zone]
  | .Tree=>[.entries] | .Commit=>[.tree,.parents,.author,.committer,.extra,.message] | .MemoryStore=>[.hasher,.kept]
noncomputable def putF (fs:List (Fd × V)) (f:Fd) (x:V):List (Fd × V):=match fs with
  | []=>[(f,x)]
  | (g,y) :: r=>if g=f then (g,x) :: r else (g,y) :: putF r f x
noncomputable def setF (v:V) (f:Fd) (x:V) (H:AH) (Q:AH→Prop):Prop:=v.onInst fun c i=>fldK H c i fun fs=>(f∈fieldsOf c∧fs.length < 100)∧Q (H.set i (.flds c (putF fs f x)))
noncomputable def putK (kvs:List (K × V)) (k:K) (x:V):List (K × V):=match kvs with
  | []=>[(k,x)]
  | (g,y) :: r=>if g=k then (g,x) :: r else (g,y) :: putK r k x
noncomputable def putKs:List (V × V)→List (K × V)→Option (List (K × V))
  | [],acc=>some acc
  | (k,x) :: r,acc=>match k.key with
    | some k=>if acc.all (fun e=>e.1.sameKind k) && decide (acc.length < 15) then putKs r (putK acc k x) else none
    | none=>none
noncomputable def newDict (vs:List (V × V)):CM V:=fun H Q=>optK (putKs vs []) fun kvs=>Q (.ref H.length) (H++[.dict kvs])
noncomputable def place (n:Nat) (i:Int):Option Nat:=if 0≤i then (if i < n then some i.toNat else none) else (if 0≤i+n then some (i+n).toNat else none)
noncomputable def subV (a i:V):CM V:=fun H Q =>
  (a.onRef fun l=>optK H[l]? fun o =>
    (o.onList fun vs=>i.onInt fun j=>vs.length≤lim∧optK ((place vs.length j).bind (vs[·]?)) fun x=>Q x H) ∨
    (o.onDict fun kvs=>optK i.key fun k=>kvs.all (fun e=>e.1.sameKind k)=true∧optK (kvs.lookup k) fun x=>Q x H)) ∨
  (a.onTup fun vs=>i.onInt fun j=>vs.length≤lim∧optK ((place vs.length j).bind (vs[·]?)) fun x=>Q x H) ∨
  (a.onStr fun s=>i.onInt fun j=>s.length≤lim∧optK ((place s.length j).bind (s[·]?)) fun c=>Q (.str [c]) H)
noncomputable def setI (a i x:V) (H:AH) (Q:AH→Prop):Prop:=a.onRef fun l=>optK H[l]? fun o =>
  (o.onList fun vs=>i.onInt fun j=>(0≤j∧j < vs.length∧vs.length≤lim)∧Q (H.set l (.list (vs.set j.toNat x)))) ∨
  (o.onDict fun kvs=>optK i.key fun k=>(kvs.all (fun e=>e.1.sameKind k)=true∧kvs.length < lim)∧Q (H.set l (.dict (putK kvs k x))))
noncomputable def uptoV (a hi:V):CM V:=fun H Q=>hi.onInt fun n =>
  (a.onTup fun vs=>n=2∧∃ x y z,vs=[x,y,z]∧Q (.tup [x,y]) H) ∨
  ((0≤n∧n < 1000)∧((∃ vs,a = .flist vs∧vs.length≤lim∧newList (vs.take n.toNat) H Q)∨a.onRef fun l=>lstK H l fun vs=>vs.length≤lim∧newList (vs.take n.toNat) H Q))
noncomputable def revV (a:V):CM V:=fun H Q=>a.onRef fun l=>lstK H l fun vs=>newList vs.reverse H Q
noncomputable def lenV (a:V):CM V:=fun H Q =>
  (a.onRef fun i=>optK H[i]? fun o=>(o.onList fun vs=>vs.length≤lim∧Q (.int vs.length) H)∨(o.onDict fun vs=>vs.length≤lim∧Q (.int vs.length) H)) ∨
  (a.onBytes fun b=>b.length≤lim∧Q (.int b.length) H)
noncomputable def tupleV (a:V):CM V:=fun H Q=>(a.onTup fun vs=>Q (.tup vs) H)∨(a.onRef fun i=>lstK H i fun vs=>vs.length≤lim∧Q (.tup vs) H)
noncomputable def listV (a:V):CM V:=fun H Q=>(a.onTup fun vs=>newList vs H Q)∨(a.onRef fun i=>lstK H i fun vs=>newList vs H Q)
noncomputable def rangeVs (n:Int):List V:=(List.range n.toNat).map fun (k:Nat)=>V.int (k:Int)
noncomputable def listRangeV (a:V):CM V:=fun H Q=>a.onInt fun n=>(0≤n∧n≤1000)∧newList (rangeVs n) H Q
noncomputable def byteOf:V→Option UInt8
  | .int i=>if 0≤i∧i < 256 then some (UInt8.ofNat i.toNat) else none
  | _=>none
noncomputable def bytesV (a:V):CM V:=fun H Q=>(a.onBytes fun b=>Q (.bytes b) H)∨(a.onRef fun i=>lstK H i fun vs=>vs.length≤lim∧optK (vs.mapM byteOf) fun bs=>Q (.bytes bs) H)
noncomputable def ordK (a:V) (Q:V→Prop):Prop:=a.onStr fun s=>∃ c:Nat,s=[c]∧Q (.int c)
noncomputable def bltB:List UInt8→List UInt8→Bool
  | [],[]=>false
  | [],_ :: _=>true
  | _ :: _,[]=>false
  | a :: r,b :: t=>if a=b then bltB r t else decide (a < b)
noncomputable def ltP:V→V→Bool
  | .int a,.int b=>decide (a < b)
  | .bytes a,.bytes b=>bltB a b
  | _,_=>false
noncomputable def ins (v:V):List V→List V
  | []=>[v]
  | x :: r=>if ltP v x then v :: x :: r else x :: ins v r
noncomputable def isort:List V→List V
  | []=>[]
  | v :: r=>ins v (isort r)
noncomputable def allInt:List V→Bool
  | []=>true
  | .int _ :: r=>allInt r
  | _=>false
noncomputable def allBytes:List V→Bool
  | []=>true
  | .bytes _ :: r=>allBytes r
  | _=>false
noncomputable def sortedV (a:V):CM V:=fun H Q=>a.onRef fun i=>optK H[i]? fun o =>
  (o.onList fun vs=>((allInt vs || allBytes vs)=true∧vs.length < 64)∧newList (isort vs) H Q) ∨
  (o.onDict fun kvs=>(allInt (kvs.map (·.1.val))=true∧kvs.length < 64)∧newList (isort (kvs.map (·.1.val))) H Q)
noncomputable def maxInts:List V→Option Int
  | [.int a]=>some a
  | .int a :: r=>(maxInts r).map fun m=>if a < m then m else a
  | _=>none
noncomputable def maxV (a:V):CM V:=fun H Q=>a.onRef fun i=>lstK H i fun vs=>optK (maxInts vs) fun m=>Q (.int m) H
noncomputable def digits (n:Nat):List Nat:=(Nat.toDigits 10 n).map Char.toNat
noncomputable def strK (a:V) (Q:V→Prop):Prop:=a.onInt fun i=>(0≤i∧i < 10 ^ 9)∧Q (.str (digits i.toNat))
noncomputable def commaL:List (List Nat)→List Nat
  | []=>[]
  | [x]=>x
  | x :: r=>x++[44,32]++commaL r
noncomputable def boolText:V→Option (List Nat)
  | .bool true=>some [84,114,117,101]
  | .bool false=>some [70,97,108,115,101]
  | _=>none
noncomputable def reprV (a:V):CM V:=fun H Q=>a.onRef fun i=>lstK H i fun vs=>vs.length=2∧optK (vs.mapM boolText) fun ts=>Q (.str ([91]++commaL ts++[93])) H
noncomputable def appV (o x:V):CM V:=fun H Q=>o.onRef fun i=>lstK H i fun vs=>vs.length < lim∧Q .none (H.set i (.list (vs++[x])))
noncomputable def popV (o:V):CM V:=fun H Q=>o.onRef fun i=>lstK H i fun vs=>vs.length≤lim∧optK vs.getLast? fun x=>Q x (H.set i (.list vs.dropLast))
noncomputable def popAtV (o i:V):CM V:=fun H Q=>o.onRef fun l=>i.onInt fun j=>lstK H l fun vs=>(0≤j∧j < vs.length∧vs.length≤lim)∧optK vs[j.toNat]? fun x=>Q x (H.set l (.list (vs.eraseIdx j.toNat)))
noncomputable def extV (o x:V):CM V:=fun H Q=>o.onRef fun l=>x.onRef fun m=>l≠m∧lstK H l fun vs=>lstK H m fun ws=>vs.length+ws.length≤lim∧Q .none (H.set l (.list (vs++ws)))
noncomputable def bytesOf:V→Option (List UInt8)
  | .bytes b=>some b
  | _=>none
noncomputable def strOf:V→Option (List Nat)
  | .str b=>some b
  | _=>none
noncomputable def joinV (o x:V):CM V:=fun H Q=>x.onRef fun i=>lstK H i fun vs=>vs.length≤lim ∧
  ((o = .bytes []∧optK (vs.mapM bytesOf) fun bs=>bs.flatten.length≤lim∧Q (.bytes bs.flatten) H) ∨
   (o = .str []∧optK (vs.mapM strOf) fun bs=>bs.flatten.length≤lim∧Q (.str bs.flatten) H))
noncomputable def zipAt (v w:Option V):Option V:=v.bind fun a=>w.map fun b=>.tup [a,b]
noncomputable def itK (it:Iter) (p:Nat) (H:AH) (N:Prop) (Q:V→Prop):Prop:=match it with
  | .vals vs=>optB vs[p]? N Q
  | .live i=>lstK H i fun vs=>optB vs[p]? N Q
  | .enum i=>lstK H i fun vs=>optB vs[p]? N fun v=>Q (.tup [.int p,v])
  | .zip i j k=>lstK H i fun vs=>lstK H j fun ws=>H[k]?=some .buf∧vs.length=ws.length∧optB (zipAt vs[p]? ws[p]?) N Q
noncomputable def compOwn (own:Nat) (v:V) (Q:List (Option V)→Prop):Prop :=
  (own=1∧Q [some v])∨(own=2∧v.onTup fun vs=>∃ a b,vs=[a,b]∧Q [some a,some b])
structure Orc where
  fn:Fn→List V→CM V
  clo:List Nat→List V→CM V
noncomputable def iterV (v:V) (H:AH) (Q:Iter→Prop):Prop :=
  (v.onRef fun i=>lstK H i fun _=>Q (.live i))∨(v.onTup fun vs=>Q (.vals vs))∨(v.onStr fun s=>Q (.vals (s.map fun c=>.str [c])))∨(v.onBytes fun b=>Q (.vals (b.map fun c=>.int c.toNat)))
noncomputable def fuelFor:Nat:=2000
noncomputable def fuelWhile:Nat:=1000000
noncomputable def compTurns (it:Iter) (own:Nat) (cond:List (Option V)→CM Bool) (elt:List (Option V)→CM V):Nat→Nat→List V→CM (List V)
  | 0,_,_=>fun _ _=>False
  | n+1,p,acc=>fun H Q=>itK it p H (Q acc H) fun v=>compOwn own v fun o=>cond o H fun r H =>
      iteB r (elt o H fun x H=>acc.length < lim∧compTurns it own cond elt n (p+1) (acc++[x]) H Q) (compTurns it own cond elt n (p+1) acc H Q)
noncomputable def initOf:Cls→Fn
  | .CountingHasher=>.hash_init
  | .RankQueue=>.rq_init
  | .WalkedCommit=>.wc_init
  | .Walk=>.anc_init
  | .Person=>.person_init
  | .Tree=>.tree_init
  | .Commit=>.commit_init
  | .MemoryStore=>.store_init
noncomputable def methOf:Cls→List Fn
  | .CountingHasher=>[.digest]
  | .RankQueue=>[.many,.put,.take,.sink]
  | .WalkedCommit=>[]
  | .Walk=>[.walked,.parents,.date,.level,.painted,.is_ancestor,.best_common,.merge_bases,.merge_bases_many,.independent,.ahead_behind]
  | .Person=>[.person_octets]
  | .Tree=>[.tree_octets]
  | .Commit=>[.commit_octets]
  | .MemoryStore=>[.keep,.write_tree,.write_commit,.row_of,.of_kind,.store_commit]
noncomputable def rdMeth (f:Fn) (v:V) (H:AH) (P:Prop):Prop:=v.onInst fun c i=>fldK H c i fun _=>(methOf c).contains f=true∧P
noncomputable def isCall (v:V):Bool:=match v with
  | .fn f=>Nat.blt f 54
  | .clo _=>true
  | _=>false
mutual
noncomputable def evE (O:Orc):E→Loc→CM V
  | .c v,_=>fun H Q=>Q v H
  | .l k,loc=>fun H Q=>locK loc[k]? fun v=>Q v H
  | .lc k,loc=>fun H Q=>optK loc[k]? fun o=>optK o fun v=>v.onCel fun i=>celK H i fun o=>optK o fun v=>Q v H
  | .bin op a b,loc=>fun H Q=>evE O a loc H fun x H=>evE O b loc H fun y H=>binV op x y H Q
  | .neg a,loc=>fun H Q=>evE O a loc H fun x H=>x.onInt fun i=>Q (.int (-i)) H
  | .cmp o a b,loc=>fun H Q=>evE O a loc H fun x H=>evE O b loc H fun y H=>cmpB o x y H fun r H=>Q (.bool r) H
  | .ite t a b,loc=>fun H Q=>evT O t loc H fun r H=>iteB r (evE O a loc H Q) (evE O b loc H Q)
  | .attr a f,loc=>fun H Q=>evE O a loc H fun x H=>getF x f H Q
  | .sub a i,loc=>fun H Q=>evE O a loc H fun x H=>evE O i loc H fun y H=>subV x y H Q
  | .upto a i,loc=>fun H Q=>evE O a loc H fun x H=>evE O i loc H fun y H=>uptoV x y H Q
  | .rev a,loc=>fun H Q=>evE O a loc H fun x H=>revV x H Q
  | .tup es,loc=>fun H Q=>evEs O es loc H fun vs H=>Q (.tup vs) H
  | .lst es,loc=>fun H Q=>evEs O es loc H fun vs H=>newList vs H Q
  | .dct kvs,loc=>fun H Q=>evKs O kvs loc H fun vs H=>newDict vs H Q
  | .fn f es,loc=>fun H Q=>evEs O es loc H fun vs H=>O.fn f vs H Q
  | .me o f es,loc=>fun H Q=>evE O o loc H fun x H=>rdMeth f x H (evEs O es loc H fun vs H=>O.fn f (x :: vs) H Q)
  | .new c es,loc=>fun H Q=>evEs O es loc H fun vs H=>O.fn (initOf c) (.inst c H.length :: vs) (H++[.flds c []]) fun r H'=>r = .none∧Q (.inst c H.length) H'
  | .var k es,loc=>fun H Q=>optK loc[k]? fun o=>optK o fun x=>isCall x=true∧evEs O es loc H fun vs H=>(∃ f,x = .fn f∧O.fn f vs H Q)∨(∃ cs,x = .clo cs∧O.clo cs vs H Q)
  | .len a,loc=>fun H Q=>evE O a loc H fun x H=>lenV x H Q
  | .tuple a,loc=>fun H Q=>evE O a loc H fun x H=>tupleV x H Q
  | .toInt a,loc=>fun H Q=>evE O a loc H fun x H=>x.onInt fun i=>Q (.int i) H
  | .toBytes a,loc=>fun H Q=>evE O a loc H fun x H=>bytesV x H Q
  | .ord a,loc=>fun H Q=>evE O a loc H fun x H=>ordK x fun v=>Q v H
  | .sorted a,loc=>fun H Q=>evE O a loc H fun x H=>sortedV x H Q
  | .max a,loc=>fun H Q=>evE O a loc H fun x H=>maxV x H Q
  | .str a,loc=>fun H Q=>evE O a loc H fun x H=>strK x fun v=>Q v H
  | .repr a,loc=>fun H Q=>evE O a loc H fun x H=>reprV x H Q
  | .listOf a,loc=>fun H Q=>evE O a loc H fun x H=>listV x H Q
  | .listRange a,loc=>fun H Q=>evE O a loc H fun x H=>listRangeV x H Q
  | .app o x,loc=>fun H Q=>evE O o loc H fun a H=>rdList a H (evE O x loc H fun b H=>appV a b H Q)
  | .pop o,loc=>fun H Q=>evE O o loc H fun a H=>popV a H Q
  | .popAt o x,loc=>fun H Q=>evE O o loc H fun a H=>rdList a H (evE O x loc H fun b H=>popAtV a b H Q)
  | .ext o x,loc=>fun H Q=>evE O o loc H fun a H=>rdList a H (evE O x loc H fun b H=>extV a b H Q)
  | .join o x,loc=>fun H Q=>evE O x loc H fun b H=>joinV o b H Q
  | .comp elt own it cond,loc=>fun H Q=>evIt O it loc H fun i H =>
      compTurns i own (fun o H Q=>match cond with | some t=>evT O t (o++loc) H Q | none=>Q true H) (fun o=>evE O elt (o++loc)) fuelFor 0 [] H fun vs H=>newList vs H Q
noncomputable def evEs (O:Orc):List E→Loc→CM (List V)
  | [],_=>fun H Q=>Q [] H
  | e :: r,loc=>fun H Q=>evE O e loc H fun v H=>evEs O r loc H fun vs H=>Q (v :: vs) H
noncomputable def evKs (O:Orc):List (E × E)→Loc→CM (List (V × V))
  | [],_=>fun H Q=>Q [] H
  | (k,e) :: r,loc=>fun H Q=>evE O k loc H fun x H=>evE O e loc H fun v H=>evKs O r loc H fun vs H=>Q ((x,v) :: vs) H
noncomputable def evT (O:Orc):T→Loc→CM Bool
  | .e a,loc=>fun H Q=>evE O a loc H fun x H=>x.onBool fun r=>Q r H
  | .not t,loc=>fun H Q=>evT O t loc H fun r H=>Q (!r) H
  | .and a b,loc=>fun H Q=>evT O a loc H fun r H=>iteB r (evT O b loc H Q) (Q false H)
  | .or a b,loc=>fun H Q=>evT O a loc H fun r H=>iteB r (Q true H) (evT O b loc H Q)
  | .cmp o a b,loc=>fun H Q=>evE O a loc H fun x H=>evE O b loc H fun y H=>cmpB o x y H Q
noncomputable def evIt (O:Orc):It→Loc→CM Iter
  | .ex a,loc=>fun H Q=>evE O a loc H fun x H=>iterV x H fun i=>Q i H
  | .range a,loc=>fun H Q=>evE O a loc H fun x H=>x.onInt fun n=>(0≤n∧n≤1000)∧Q (.vals (rangeVs n)) H
  | .enum a,loc=>fun H Q=>evE O a loc H fun x H=>x.onRef fun i=>lstK H i fun _=>Q (.enum i) H
  | .zip a b,loc=>fun H Q=>evE O a loc H fun x H=>evE O b loc H fun y H=>x.onRef fun i=>y.onRef fun j=>lstK H i fun _=>lstK H j fun _=>Q (.zip i j H.length) (H++[.buf])
end
mutual
noncomputable def asg (O:Orc):Tg→V→Loc→AH→(Loc→AH→Prop)→Prop
  | .v k,x,loc=>fun H Q=>optK loc[k]? fun o=>notCelO o=true∧Q (loc.set k (some x)) H
  | .vc k,x,loc=>fun H Q=>optK loc[k]? fun o=>optK o fun v=>v.onCel fun i=>celK H i fun _=>Q loc (H.set i (.cell (some x)))
  | .tup ts,x,loc=>fun H Q=>x.onTup fun vs=>ts.length=vs.length∧asgs O ts vs loc H Q
  | .at o f,x,loc=>fun H Q=>evE O o loc H fun a H=>setF a f x H fun H=>Q loc H
  | .sb o i,x,loc=>fun H Q=>evE O o loc H fun a H=>evE O i loc H fun b H=>setI a b x H fun H=>Q loc H
noncomputable def asgs (O:Orc):List Tg→List V→Loc→AH→(Loc→AH→Prop)→Prop
  | [],_,loc=>fun H Q=>Q loc H
  | t :: ts,vs,loc=>fun H Q=>match vs with
    | v :: vs=>asg O t v loc H fun loc H=>asgs O ts vs loc H Q
    | []=>False
end
noncomputable def forTurns (it:Iter) (tgt:V→Loc→AH→(Loc→AH→Prop)→Prop) (body:Loc→CS):Nat→Nat→Loc→AH→(Loc→AH→Prop)→(V→AH→Prop)→Prop
  | 0,_,_=>fun _ _ _=>False
  | n+1,p,loc=>fun H N R=>itK it p H (N loc H) fun v=>tgt v loc H fun loc H=>body loc H (fun loc H=>forTurns it tgt body n (p+1) loc H N R) R fun loc H=>forTurns it tgt body n (p+1) loc H N R
noncomputable def whileTurns (test:Loc→CM Bool) (body:Loc→CS):Nat→Loc→AH→(Loc→AH→Prop)→(V→AH→Prop)→Prop
  | 0,_=>fun _ _ _=>False
  | n+1,loc=>fun H N R=>test loc H fun r H=>iteB r (body loc H (fun loc H=>whileTurns test body n loc H N R) R fun loc H=>whileTurns test body n loc H N R) (N loc H)
noncomputable def plainV (v:V):Bool:=match v with
  | .none=>true
  | .bool _=>true
  | .int _=>true
  | .str _=>true
  | .bytes _=>true
  | _=>false
noncomputable def celAt (loc:Loc) (c:Nat):Option Nat:=loc[c]?.bind fun o=>o.bind fun v=>match v with
  | .cel i=>some i
  | _=>none
mutual
noncomputable def evS (O:Orc):S→Loc→CS
  | .asg t e,loc=>fun H N _ _=>evE O e loc H fun v H=>asg O t v loc H N
  | .aug o f op e,loc=>fun H N _ _=>evE O o loc H fun a H=>getF a f H fun x H=>evE O e loc H fun y H=>x.onInt fun i=>y.onInt fun j=>optK (intOp op i j) fun r=>setF a f (.int r) H fun H=>N loc H
  | .ex e,loc=>fun H N _ _=>evE O e loc H fun v H=>plainV v=true∧N loc H
  | .ite t a b,loc=>fun H N R Ct=>evT O t loc H fun r H=>iteB r (evSs O a loc H N R Ct) (evSs O b loc H N R Ct)
  | .for t it b,loc=>fun H N R _=>evIt O it loc H fun i H=>forTurns i (asg O t) (evSs O b) fuelFor 0 loc H N R
  | .while t b,loc=>fun H N R _=>whileTurns (evT O t) (evSs O b) fuelWhile loc H N R
  | .ret e,loc=>fun H _ R _=>evE O e loc H R
  | .cont,loc=>fun H _ _ Ct=>Ct loc H
  | .defc k cells,loc=>fun H N _ _=>optK (cells.mapM (celAt loc)) fun is=>optK H[0]? fun o=>(∃ b,o = .tab b)∧k < loc.length∧N (loc.set k (some (.clo is))) (H.set 0 (.tab true))
  | .stuck,_=>fun _ _ _ _=>False
noncomputable def evSs (O:Orc):List S→Loc→CS
  | [],loc=>fun H N _ _=>N loc H
  | s :: r,loc=>fun H N R Ct=>evS O s loc H (fun loc H=>evSs O r loc H N R Ct) R Ct
end
structure FnInfo where
  np:Nat
  ns:Nat
  hc:List Nat:=[]
  dflt:List V:=[]
  body:List S
noncomputable def layCells:List Nat→Loc→AH→(Loc→AH→Prop)→Prop
  | [],loc=>fun H Q=>Q loc H
  | k :: r,loc=>fun H Q=>layCells r (loc.set k (some (.cel H.length))) (H++[.cell none]) Q
noncomputable def startLoc (n:Nat) (vs:List V):Loc:=vs.map some++List.replicate (n - vs.length) none
noncomputable def withDflt (I:FnInfo) (vs:List V):List V:=vs++I.dflt.drop (vs.length+I.dflt.length - I.np)
noncomputable def runFn (O:Orc) (I:FnInfo) (vs:List V):CM V:=fun H Q =>
  (withDflt I vs).length=I.np∧layCells I.hc (startLoc I.ns (withDflt I vs)) H fun loc H=>evSs O I.body loc H (fun _ H=>Q .none H) Q fun _ _=>False
noncomputable def b_octets_of:List S :=
    [.asg (.v 1) (.comp (.ord (.l 0)) 1 (.ex (.l 0)) none),
      .for (.v 2) (.ex (.l 1)) [.ite (.cmp .gt (.l 2) (.c (.int 255))) [.stuck] []],
      .ret (.toBytes (.l 1))]
noncomputable def b_hex_of:List S :=
    [.asg (.v 1) (.lst []),
      .for (.v 2) (.ex (.l 0)) [.ex (.app (.l 1) (.sub (.c (.str [48,49,50,51,52,53,54,55,56,57,97,98,99,100,101,102])) (.bin .shr (.l 2) (.c (.int 4))))),
      .ex (.app (.l 1) (.sub (.c (.str [48,49,50,51,52,53,54,55,56,57,97,98,99,100,101,102])) (.bin .band (.l 2) (.c (.int 15)))))],
      .ret (.join (.str []) (.l 1))]
noncomputable def b_big_endian:List S :=
    [.ret (.toBytes (.comp (.bin .band (.bin .shr (.l 1) (.bin .mul (.c (.int 8)) (.bin .sub (.bin .sub (.l 2) (.c (.int 1))) (.l 0)))) (.c (.int 255))) 1 (.range (.l 1)) none))]
noncomputable def b_hash_init:List S :=
    [.asg (.at (.l 0) .size) (.l 1),
      .asg (.at (.l 0) .known) (.dct [])]
noncomputable def b_digest:List S :=
    [.asg (.v 2) (.toBytes (.l 1)),
      .ite (.cmp .nin (.l 2) (.attr (.l 0) .known)) [.asg (.sb (.attr (.l 0) .known) (.l 2)) (.bin .add (.len (.attr (.l 0) .known)) (.c (.int 1)))] [],
      .ret (.fn .big_endian [(.sub (.attr (.l 0) .known) (.l 2)),(.attr (.l 0) .size)])]
noncomputable def b_rq_init:List S :=
    [.asg (.at (.l 0) .rows) (.lst []),
      .asg (.at (.l 0) .came) (.c (.int 0))]
noncomputable def b_many:List S :=
    [.ret (.len (.attr (.l 0) .rows))]
noncomputable def b_put:List S :=
    [.ex (.app (.attr (.l 0) .rows) (.tup [(.neg (.l 1)),(.attr (.l 0) .came),(.l 2)])),
      .aug (.l 0) .came .add (.c (.int 1)),
      .asg (.v 3) (.bin .sub (.len (.attr (.l 0) .rows)) (.c (.int 1))),
      .while (.cmp .gt (.l 3) (.c (.int 0))) [.asg (.v 4) (.bin .fdiv (.bin .sub (.l 3) (.c (.int 1))) (.c (.int 2))),
      .ite (.cmp .le (.upto (.sub (.attr (.l 0) .rows) (.l 4)) (.c (.int 2))) (.upto (.sub (.attr (.l 0) .rows) (.l 3)) (.c (.int 2)))) [.ret (.c .none)] [],
      .asg (.tup [(.sb (.attr (.l 0) .rows) (.l 4)),(.sb (.attr (.l 0) .rows) (.l 3))]) (.tup [(.sub (.attr (.l 0) .rows) (.l 3)),(.sub (.attr (.l 0) .rows) (.l 4))]),
      .asg (.v 3) (.l 4)]]
noncomputable def b_take:List S :=
    [.asg (.v 1) (.sub (.attr (.l 0) .rows) (.c (.int 0))),
      .asg (.v 2) (.pop (.attr (.l 0) .rows)),
      .ite (.cmp .ne (.attr (.l 0) .rows) (.lst [])) [.asg (.sb (.attr (.l 0) .rows) (.c (.int 0))) (.l 2),
      .ex (.me (.l 0) .sink [])] [],
      .ret (.sub (.l 1) (.c (.int 2)))]
noncomputable def b_sink:List S :=
    [.asg (.tup [(.v 1),(.v 2)]) (.tup [(.c (.int 0)),(.len (.attr (.l 0) .rows))]),
      .while (.e (.c (.bool true))) [.asg (.v 3) (.l 1),
      .for (.v 4) (.ex (.tup [(.bin .add (.bin .mul (.c (.int 2)) (.l 1)) (.c (.int 1))),(.bin .add (.bin .mul (.c (.int 2)) (.l 1)) (.c (.int 2)))])) [.ite (.and (.cmp .lt (.l 4) (.l 2)) (.cmp .lt (.upto (.sub (.attr (.l 0) .rows) (.l 4)) (.c (.int 2))) (.upto (.sub (.attr (.l 0) .rows) (.l 3)) (.c (.int 2))))) [.asg (.v 3) (.l 4)] []],
      .ite (.cmp .eq (.l 3) (.l 1)) [.ret (.c .none)] [],
      .asg (.tup [(.sb (.attr (.l 0) .rows) (.l 3)),(.sb (.attr (.l 0) .rows) (.l 1))]) (.tup [(.sub (.attr (.l 0) .rows) (.l 1)),(.sub (.attr (.l 0) .rows) (.l 3))]),
      .asg (.v 1) (.l 3)]]
noncomputable def b_wc_init:List S :=
    [.asg (.at (.l 0) .parents) (.l 1),
      .asg (.at (.l 0) .tree) (.l 2),
      .asg (.at (.l 0) .date) (.l 3)]
noncomputable def b_walked_once:List S :=
    [.asg (.tup [(.v 1),(.v 2)]) (.tup [(.dct []),(.lst [])]),
      .for (.v 3) (.ex (.l 0)) [.ite (.cmp .nin (.l 3) (.l 1)) [.asg (.sb (.l 1) (.l 3)) (.c (.bool true)),
      .ex (.app (.l 2) (.l 3))] []],
      .ret (.l 2)]
noncomputable def b_passed_whole:List S :=
    [.ret (.l 0)]
noncomputable def b_anc_init:List S :=
    [.asg (.at (.l 0) .store) (.l 1),
      .asg (.at (.l 0) .shallow) (.dct []),
      .for (.v 3) (.ex (.l 2)) [.asg (.sb (.attr (.l 0) .shallow) (.l 3)) (.c (.bool true))],
      .asg (.at (.l 0) .known) (.dct []),
      .asg (.at (.l 0) .levels) (.dct [])]
noncomputable def b_walked:List S :=
    [.ite (.cmp .nin (.l 1) (.attr (.l 0) .known)) [.asg (.v 2) (.me (.attr (.l 0) .store) .store_commit [(.l 1)]),
      .asg (.v 3) (.ite (.cmp .isin (.l 1) (.attr (.l 0) .shallow)) (.lst []) (.listOf (.attr (.l 2) .parents))),
      .asg (.sb (.attr (.l 0) .known) (.l 1)) (.new .WalkedCommit [(.l 3),(.attr (.l 2) .tree),(.attr (.attr (.l 2) .committer) .when)])] [],
      .ret (.sub (.attr (.l 0) .known) (.l 1))]
noncomputable def b_parents:List S :=
    [.ret (.listOf (.attr (.me (.l 0) .walked [(.l 1)]) .parents))]
noncomputable def b_date:List S :=
    [.ret (.attr (.me (.l 0) .walked [(.l 1)]) .date)]
noncomputable def b_level:List S :=
    [.asg (.v 2) (.lst [(.l 1)]),
      .while (.cmp .ne (.l 2) (.lst [])) [.asg (.v 3) (.sub (.l 2) (.neg (.c (.int 1)))),
      .ite (.cmp .isin (.l 3) (.attr (.l 0) .levels)) [.ex (.pop (.l 2)),
      .cont] [],
      .asg (.v 4) (.attr (.me (.l 0) .walked [(.l 3)]) .parents),
      .asg (.v 5) (.comp (.l 0) 1 (.ex (.l 4)) (some (.cmp .nin (.l 0) (.attr (.l 1) .levels)))),
      .ite (.cmp .ne (.l 5) (.lst [])) [.ex (.ext (.l 2) (.l 5)),
      .cont] [],
      .asg (.sb (.attr (.l 0) .levels) (.l 3)) (.bin .add (.c (.int 1)) (.max (.bin .add (.comp (.sub (.attr (.l 1) .levels) (.l 0)) 1 (.ex (.l 4)) none) (.lst [(.c (.int 0))])))),
      .ex (.pop (.l 2))],
      .ret (.sub (.attr (.l 0) .levels) (.l 1))]
noncomputable def b_painted:List S :=
    [.asg (.tup [(.v 3),(.v 4),(.v 5)]) (.tup [(.dct []),(.lst []),(.new .RankQueue [])]),
      .for (.tup [(.v 6),(.v 7)]) (.ex (.l 1)) [.ite (.cmp .nin (.l 6) (.l 3)) [.ex (.me (.l 5) .put [(.me (.l 0) .level [(.l 6)]),(.l 6)]),
      .asg (.sb (.l 3) (.l 6)) (.c (.int 0))] [],
      .asg (.sb (.l 3) (.l 6)) (.bin .bor (.sub (.l 3) (.l 6)) (.l 7))],
      .while (.cmp .gt (.me (.l 5) .many []) (.c (.int 0))) [.asg (.v 6) (.me (.l 5) .take []),
      .ex (.app (.l 4) (.l 6)),
      .for (.tup [(.v 8),(.v 9)]) (.enum (.attr (.me (.l 0) .walked [(.l 6)]) .parents)) [.asg (.v 7) (.var 2 [(.sub (.l 3) (.l 6)),(.l 8)]),
      .ite (.cmp .eq (.l 7) (.c (.int 0))) [.cont] [],
      .ite (.cmp .nin (.l 9) (.l 3)) [.ex (.me (.l 5) .put [(.me (.l 0) .level [(.l 9)]),(.l 9)]),
      .asg (.sb (.l 3) (.l 9)) (.c (.int 0))] [],
      .asg (.sb (.l 3) (.l 9)) (.bin .bor (.sub (.l 3) (.l 9)) (.l 7))]],
      .ret (.tup [(.l 4),(.l 3)])]
noncomputable def b_is_ancestor:List S :=
    [.ite (.cmp .eq (.l 1) (.l 2)) [.ret (.c (.bool true))] [],
      .asg (.v 3) (.me (.l 0) .level [(.l 1)]),
      .ite (.cmp .ge (.l 3) (.me (.l 0) .level [(.l 2)])) [.ret (.c (.bool false))] [],
      .asg (.tup [(.v 4),(.v 5)]) (.tup [(.dct [((.l 2),(.c (.bool true)))]),(.lst [(.l 2)])]),
      .while (.cmp .ne (.l 5) (.lst [])) [.asg (.v 6) (.pop (.l 5)),
      .for (.v 7) (.ex (.attr (.me (.l 0) .walked [(.l 6)]) .parents)) [.ite (.cmp .eq (.l 7) (.l 1)) [.ret (.c (.bool true))] [],
      .ite (.and (.cmp .nin (.l 7) (.l 4)) (.cmp .gt (.me (.l 0) .level [(.l 7)]) (.l 3))) [.asg (.sb (.l 4) (.l 7)) (.c (.bool true)),
      .ex (.app (.l 5) (.l 7))] []]],
      .ret (.c (.bool false))]
noncomputable def b_best_common:List S :=
    [.asg (.vc 2) (.bin .sub (.bin .shl (.c (.int 1)) (.len (.l 1))) (.c (.int 1))),
      .asg (.vc 3) (.bin .shl (.c (.int 1)) (.len (.l 1))),
      .asg (.v 4) (.lst []),
      .for (.tup [(.v 5),(.v 6)]) (.enum (.l 1)) [.ex (.ext (.l 4) (.comp (.tup [(.l 0),(.bin .shl (.c (.int 1)) (.l 6))]) 1 (.ex (.l 6)) none))],
      .defc 7 [3,2],
      .asg (.tup [(.v 8),(.v 9)]) (.me (.l 0) .painted [(.l 4),(.l 7)]),
      .ret (.sorted (.comp (.l 0) 1 (.ex (.l 8)) (some (.cmp .eq (.sub (.l 10) (.l 0)) (.lc 3)))))]
noncomputable def b_merge_bases:List S :=
    [.ret (.me (.l 0) .best_common [(.lst [(.lst [(.l 1)]),(.lst [(.l 2)])])])]
noncomputable def b_merge_bases_many:List S :=
    [.ite (.cmp .eq (.l 1) (.lst [])) [.ret (.lst [])] [],
      .ret (.me (.l 0) .best_common [(.comp (.lst [(.l 0)]) 1 (.ex (.l 1)) none)])]
noncomputable def b_independent:List S :=
    [.asg (.v 2) (.fn .walked_once [(.l 1)]),
      .asg (.v 3) (.lst []),
      .for (.v 4) (.ex (.l 2)) [.ex (.ext (.l 3) (.comp (.tup [(.l 0),(.c (.int 1))]) 1 (.ex (.attr (.me (.l 0) .walked [(.l 4)]) .parents)) none))],
      .asg (.v 5) (.sub (.me (.l 0) .painted [(.l 3),(.c (.fn .passed_whole))]) (.c (.int 1))),
      .ret (.comp (.l 0) 1 (.ex (.l 2)) (some (.cmp .nin (.l 0) (.l 6))))]
noncomputable def b_ahead_behind:List S :=
    [.asg (.tup [(.v 3),(.v 4)]) (.me (.l 0) .painted [(.lst [(.tup [(.l 1),(.c (.int 1))]),(.tup [(.l 2),(.c (.int 2))])]),(.c (.fn .passed_whole))]),
      .asg (.v 5) (.len (.comp (.l 0) 1 (.ex (.l 3)) (some (.cmp .eq (.sub (.l 5) (.l 0)) (.c (.int 1)))))),
      .ret (.tup [(.l 5),(.len (.comp (.l 0) 1 (.ex (.l 3)) (some (.cmp .eq (.sub (.l 5) (.l 0)) (.c (.int 2))))))])]
noncomputable def b_person_init:List S :=
    [.asg (.at (.l 0) .name) (.l 1),
      .asg (.at (.l 0) .email) (.l 2),
      .asg (.at (.l 0) .when) (.l 3),
      .asg (.at (.l 0) .zone) (.l 4)]
noncomputable def b_person_octets:List S :=
    [.ret (.bin .add (.bin .add (.bin .add (.bin .add (.bin .add (.bin .add (.attr (.l 0) .name) (.c (.bytes [32,60]))) (.attr (.l 0) .email)) (.c (.bytes [62,32]))) (.fn .octets_of [(.str (.attr (.l 0) .when))])) (.c (.bytes [32]))) (.attr (.l 0) .zone))]
noncomputable def b_tree_init:List S :=
    [.asg (.at (.l 0) .entries) (.l 1)]
noncomputable def b_tree_octets:List S :=
    [.asg (.v 1) (.lst []),
      .for (.v 2) (.ex (.attr (.l 0) .entries)) [.stuck],
      .ret (.join (.bytes []) (.l 1))]
noncomputable def b_tree_faults:List S :=
    [.asg (.tup [(.v 1),(.v 2),(.v 3)]) (.tup [(.lst []),(.dct []),(.c .none)]),
      .for (.v 4) (.ex (.attr (.l 0) .entries)) [.stuck,
      .stuck,
      .stuck,
      .ite (.cmp .isin (.attr (.l 4) .name) (.l 2)) [.ex (.app (.l 1) (.c (.str [97,32,110,97,109,101,32,116,119,105,99,101])))] [.stuck],
      .stuck,
      .asg (.sb (.l 2) (.attr (.l 4) .name)) (.c (.bool true)),
      .stuck],
      .ret (.l 1)]
noncomputable def b_check_tree:List S :=
    [.asg (.v 1) (.fn .tree_faults [(.l 0)]),
      .ite (.cmp .gt (.len (.l 1)) (.c (.int 0))) [.stuck] []]
noncomputable def b_commit_init:List S :=
    [.asg (.at (.l 0) .tree) (.l 1),
      .asg (.at (.l 0) .parents) (.l 2),
      .asg (.at (.l 0) .author) (.l 3),
      .asg (.at (.l 0) .committer) (.l 4),
      .asg (.at (.l 0) .extra) (.l 5),
      .asg (.at (.l 0) .message) (.l 6)]
noncomputable def b_commit_octets:List S :=
    [.asg (.v 1) (.lst [(.bin .add (.bin .add (.c (.bytes [116,114,101,101,32])) (.fn .octets_of [(.fn .hex_of [(.attr (.l 0) .tree)])])) (.c (.bytes [10])))]),
      .for (.v 2) (.ex (.attr (.l 0) .parents)) [.ex (.app (.l 1) (.bin .add (.bin .add (.c (.bytes [112,97,114,101,110,116,32])) (.fn .octets_of [(.fn .hex_of [(.l 2)])])) (.c (.bytes [10]))))],
      .ex (.app (.l 1) (.bin .add (.bin .add (.c (.bytes [97,117,116,104,111,114,32])) (.me (.attr (.l 0) .author) .person_octets [])) (.c (.bytes [10])))),
      .ex (.app (.l 1) (.bin .add (.bin .add (.c (.bytes [99,111,109,109,105,116,116,101,114,32])) (.me (.attr (.l 0) .committer) .person_octets [])) (.c (.bytes [10])))),
      .for (.tup [(.v 3),(.v 4)]) (.ex (.attr (.l 0) .extra)) [.stuck],
      .ex (.app (.l 1) (.bin .add (.c (.bytes [10])) (.attr (.l 0) .message))),
      .ret (.join (.bytes []) (.l 1))]
noncomputable def b_object_octets:List S :=
    [.ret (.bin .add (.bin .add (.bin .add (.bin .add (.l 0) (.c (.bytes [32]))) (.fn .octets_of [(.str (.len (.l 1)))])) (.c (.bytes [0]))) (.l 1))]
noncomputable def b_store_init:List S :=
    [.asg (.at (.l 0) .hasher) (.l 1),
      .asg (.at (.l 0) .kept) (.dct [])]
noncomputable def b_keep:List S :=
    [.asg (.v 4) (.me (.attr (.l 0) .hasher) .digest [(.fn .object_octets [(.l 1),(.l 2)])]),
      .ite (.cmp .nin (.l 4) (.attr (.l 0) .kept)) [.asg (.sb (.attr (.l 0) .kept) (.l 4)) (.tup [(.l 1),(.l 3)])] [],
      .ret (.l 4)]
noncomputable def b_write_tree:List S :=
    [.ex (.fn .check_tree [(.l 1)]),
      .ret (.me (.l 0) .keep [(.c (.bytes [116,114,101,101])),(.me (.l 1) .tree_octets []),(.l 1)])]
noncomputable def b_write_commit:List S :=
    [.ret (.me (.l 0) .keep [(.c (.bytes [99,111,109,109,105,116])),(.me (.l 1) .commit_octets []),(.l 1)])]
noncomputable def b_row_of:List S :=
    [.ite (.cmp .nin (.l 1) (.attr (.l 0) .kept)) [.stuck] [],
      .ret (.sub (.attr (.l 0) .kept) (.l 1))]
noncomputable def b_of_kind:List S :=
    [.asg (.tup [(.v 3),(.v 4)]) (.me (.l 0) .row_of [(.l 1)]),
      .ite (.cmp .ne (.l 3) (.l 2)) [.stuck] [],
      .ret (.l 4)]
noncomputable def b_store_commit:List S :=
    [.ret (.me (.l 0) .of_kind [(.l 1),(.c (.bytes [99,111,109,109,105,116]))])]
noncomputable def b_deck:List S :=
    [.asg (.tup [(.v 1),(.v 2)]) (.tup [(.comp (.toInt (.l 0)) 1 (.ex (.upto (.l 0) (.c (.int 12)))) none),(.c (.int 1313))]),
      .for (.v 3) (.ex (.l 1)) [.asg (.v 2) (.bin .mod (.bin .add (.bin .add (.bin .mul (.l 2) (.c (.int 48271))) (.bin .mod (.l 3) (.c (.int 2147483629)))) (.c (.int 1313))) (.c (.int 2147483587)))],
      .ret (.dct [((.c (.str [99,101,108,108,115])),(.rev (.l 1))),((.c (.str [109,105,120,101,100])),(.l 2)),((.c (.str [116,117,114,110])),(.c (.int 0)))])]
noncomputable def b_draw:List S :=
    [.asg (.sb (.l 0) (.c (.str [116,117,114,110]))) (.bin .add (.sub (.l 0) (.c (.str [116,117,114,110]))) (.c (.int 1))),
      .asg (.v 2) (.bin .add (.sub (.l 0) (.c (.str [109,105,120,101,100]))) (.bin .mul (.bin .mul (.c (.int 61313)) (.sub (.l 0) (.c (.str [116,117,114,110])))) (.sub (.l 0) (.c (.str [116,117,114,110]))))),
      .ite (.cmp .ne (.sub (.l 0) (.c (.str [99,101,108,108,115]))) (.lst [])) [.asg (.v 3) (.pop (.sub (.l 0) (.c (.str [99,101,108,108,115])))),
      .ite (.cmp .ge (.l 3) (.c (.int 1000000))) [.ex (.app (.sub (.l 0) (.c (.str [99,101,108,108,115]))) (.bin .fdiv (.l 3) (.l 1))),
      .ret (.bin .mod (.l 3) (.l 1))] [],
      .asg (.v 2) (.bin .add (.l 2) (.bin .mod (.l 3) (.c (.int 2147483563))))] [],
      .asg (.v 2) (.bin .mod (.bin .mul (.bin .mod (.l 2) (.c (.int 2147483629))) (.c (.int 40692))) (.c (.int 2147483647))),
      .asg (.v 2) (.bin .mod (.bin .add (.bin .mul (.l 2) (.l 2)) (.c (.int 1319))) (.c (.int 2147483587))),
      .ret (.bin .mod (.bin .fdiv (.bin .mod (.bin .mul (.l 2) (.c (.int 39373))) (.c (.int 2147483579))) (.c (.int 64))) (.l 1))]
noncomputable def b_pick:List S :=
    [.ret (.sub (.l 1) (.fn .draw [(.l 0),(.len (.l 1))]))]
noncomputable def b_drawn_rows:List S :=
    [.asg (.v 2) (.lst []),
      .for (.v 3) (.range (.bin .add (.c (.int 2)) (.fn .draw [(.l 0),(.bin .sub (.l 1) (.c (.int 1)))]))) [.asg (.tup [(.v 4),(.v 5)]) (.tup [(.listRange (.l 3)),(.lst [])]),
      .for (.v 6) (.range (.fn .pick [(.l 0),(.lst [(.c (.int 1)),(.c (.int 1)),(.c (.int 1)),(.c (.int 2)),(.c (.int 2)),(.c (.int 3)),(.c (.int 0))])])) [.ite (.cmp .ne (.l 4) (.lst [])) [.ex (.app (.l 5) (.popAt (.l 4) (.fn .draw [(.l 0),(.len (.l 4))])))] []],
      .ex (.app (.l 2) (.l 5))],
      .ret (.l 2)]
noncomputable def b_times:List S :=
    [.asg (.v 2) (.fn .draw [(.l 0),(.c (.int 4))]),
      .ite (.cmp .eq (.l 2) (.c (.int 0))) [.ret (.comp (.bin .add (.c (.int 100)) (.bin .mul (.c (.int 10)) (.l 0))) 1 (.range (.l 1)) none)] [],
      .ite (.cmp .eq (.l 2) (.c (.int 1))) [.ret (.bin .mul (.lst [(.c (.int 500))]) (.l 1))] [],
      .ite (.cmp .eq (.l 2) (.c (.int 2))) [.ret (.comp (.bin .sub (.c (.int 900)) (.bin .mul (.c (.int 10)) (.l 0))) 1 (.range (.l 1)) none)] [],
      .ret (.comp (.bin .add (.c (.int 1000)) (.fn .draw [(.l 1),(.c (.int 6))])) 1 (.range (.l 1)) none)]
noncomputable def b_reached:List S :=
    [.asg (.v 2) (.lst []),
      .for (.tup [(.v 3),(.v 4)]) (.enum (.l 0)) [.asg (.v 5) (.dct [((.l 3),(.c (.bool true)))]),
      .for (.v 6) (.ex (.ite (.cmp .nin (.l 3) (.l 1)) (.l 4) (.lst []))) [.for (.v 7) (.ex (.sub (.l 2) (.l 6))) [.asg (.sb (.l 5) (.l 7)) (.c (.bool true))]],
      .ex (.app (.l 2) (.sorted (.l 5)))],
      .ret (.l 2)]
noncomputable def b_rows:List S :=
    [.ite (.cmp .gt (.fn .draw [(.l 0),(.c (.int 3))]) (.c (.int 0))) [.ret (.fn .drawn_rows [(.l 0),(.c (.int 4))])] [],
      .ret (.lst [(.lst []),(.lst [(.c (.int 0))]),(.lst [(.c (.int 0))]),(.lst [(.c (.int 1)),(.c (.int 2))]),(.lst [(.c (.int 2)),(.c (.int 1))])])]
noncomputable def b_committed:List S :=
    [.asg (.tup [(.v 3),(.v 4)]) (.tup [(.new .Person [(.c (.bytes [65])),(.c (.bytes [97,64,98])),(.c (.int 5)),(.c (.bytes [43,48,48,48,48]))]),(.new .Person [(.c (.bytes [66,32,67])),(.c (.bytes [98,64,99])),(.l 2),(.c (.bytes [45,48,49,51,48]))])]),
      .asg (.v 5) (.bin .add (.bin .add (.c (.bytes [109])) (.toBytes (.lst [(.bin .add (.c (.int 65)) (.len (.sub (.l 0) (.c (.str [105,100,115])))))]))) (.c (.bytes [10]))),
      .asg (.v 6) (.me (.sub (.l 0) (.c (.str [115,116,111,114,101]))) .write_commit [(.new .Commit [(.sub (.l 0) (.c (.str [116,114,101,101]))),(.comp (.sub (.sub (.l 1) (.c (.str [105,100,115]))) (.l 0)) 1 (.ex (.l 1)) none),(.l 3),(.l 4),(.lst []),(.l 5)])]),
      .ex (.app (.sub (.l 0) (.c (.str [105,100,115]))) (.l 6)),
      .ex (.app (.sub (.l 0) (.c (.str [114,111,119,115]))) (.l 1)),
      .ex (.app (.sub (.l 0) (.c (.str [116,105,109,101,115]))) (.l 2))]
noncomputable def b_best:List S :=
    [.ret (.comp (.l 0) 1 (.ex (.l 1)) (some (.cmp .eq (.comp (.l 0) 1 (.ex (.l 2)) (some (.and (.cmp .ne (.l 0) (.l 1)) (.cmp .isin (.l 1) (.sub (.l 2) (.l 0)))))) (.lst []))))]
noncomputable def b_pair_right:List S :=
    [.asg (.v 5) (.sub (.l 0) (.c (.str [105,100,115]))),
      .asg (.v 6) (.comp (.l 0) 1 (.ex (.sub (.l 2) (.l 3))) (some (.cmp .isin (.l 0) (.sub (.l 3) (.l 5))))),
      .asg (.v 7) (.sorted (.comp (.sub (.l 6) (.l 0)) 1 (.ex (.fn .best [(.l 2),(.l 6)])) none)),
      .ite (.or (.cmp .ne (.listOf (.me (.l 1) .merge_bases [(.sub (.l 5) (.l 3)),(.sub (.l 5) (.l 4))])) (.l 7)) (.cmp .ne (.listOf (.me (.l 1) .merge_bases [(.sub (.l 5) (.l 4)),(.sub (.l 5) (.l 3))])) (.l 7))) [.ret (.c (.bool false))] [],
      .asg (.v 8) (.lst [(.me (.l 1) .is_ancestor [(.sub (.l 5) (.l 3)),(.sub (.l 5) (.l 4))]),(.me (.l 1) .is_ancestor [(.sub (.l 5) (.l 4)),(.sub (.l 5) (.l 3))])]),
      .ite (.cmp .ne (.repr (.l 8)) (.repr (.lst [(.cmp .isin (.l 3) (.sub (.l 2) (.l 4))),(.cmp .isin (.l 4) (.sub (.l 2) (.l 3)))]))) [.ret (.c (.bool false))] [],
      .asg (.v 9) (.len (.comp (.l 0) 1 (.ex (.sub (.l 2) (.l 3))) (some (.cmp .nin (.l 0) (.sub (.l 3) (.l 5)))))),
      .asg (.v 10) (.len (.comp (.l 0) 1 (.ex (.sub (.l 2) (.l 4))) (some (.cmp .nin (.l 0) (.sub (.l 3) (.l 4)))))),
      .ret (.cmp .eq (.tuple (.me (.l 1) .ahead_behind [(.sub (.l 5) (.l 3)),(.sub (.l 5) (.l 4))])) (.tup [(.l 9),(.l 10)]))]
noncomputable def b_lot_right:List S :=
    [.asg (.v 4) (.sub (.l 1) (.c (.str [105,100,115]))),
      .asg (.v 5) (.comp (.fn .draw [(.l 1),(.len (.l 5))]) 1 (.range (.fn .draw [(.l 0),(.c (.int 4))])) none),
      .asg (.v 6) (.comp (.l 0) 1 (.range (.len (.l 4))) (some (.and (.cmp .ne (.l 6) (.lst [])) (.cmp .eq (.comp (.l 0) 1 (.ex (.l 6)) (some (.cmp .nin (.l 1) (.sub (.l 5) (.l 0))))) (.lst []))))),
      .asg (.v 7) (.sorted (.comp (.sub (.l 5) (.l 0)) 1 (.ex (.fn .best [(.l 3),(.l 6)])) none)),
      .ite (.cmp .ne (.listOf (.me (.l 2) .merge_bases_many [(.comp (.sub (.l 5) (.l 0)) 1 (.ex (.l 5)) none)])) (.l 7)) [.ret (.c (.bool false))] [],
      .asg (.v 8) (.comp (.l 1) 2 (.enum (.l 5)) (some (.cmp .nin (.l 1) (.upto (.l 7) (.l 0))))),
      .asg (.v 9) (.comp (.sub (.l 5) (.l 0)) 1 (.ex (.l 8)) (some (.cmp .eq (.comp (.l 0) 1 (.ex (.l 9)) (some (.and (.cmp .ne (.l 0) (.l 1)) (.cmp .isin (.l 1) (.sub (.l 5) (.l 0)))))) (.lst [])))),
      .ret (.cmp .eq (.listOf (.me (.l 2) .independent [(.comp (.sub (.l 5) (.l 0)) 1 (.ex (.l 5)) none)])) (.l 9))]
noncomputable def b_border_right:List S :=
    [.asg (.v 2) (.len (.sub (.l 1) (.c (.str [105,100,115])))),
      .asg (.v 3) (.comp (.fn .draw [(.l 1),(.l 3)]) 1 (.range (.bin .add (.c (.int 1)) (.fn .draw [(.l 0),(.c (.int 2))]))) none),
      .asg (.tup [(.v 4),(.v 5)]) (.tup [(.new .Walk [(.sub (.l 1) (.c (.str [115,116,111,114,101]))),(.tuple (.comp (.sub (.sub (.l 2) (.c (.str [105,100,115]))) (.l 0)) 1 (.ex (.l 3)) none))]),(.fn .reached [(.sub (.l 1) (.c (.str [114,111,119,115]))),(.l 3)])]),
      .for (.v 6) (.range (.l 2)) [.asg (.v 7) (.ite (.cmp .isin (.l 6) (.l 3)) (.lst []) (.comp (.sub (.sub (.l 2) (.c (.str [105,100,115]))) (.l 0)) 1 (.ex (.sub (.sub (.l 1) (.c (.str [114,111,119,115]))) (.l 6))) none)),
      .ite (.cmp .ne (.listOf (.me (.l 4) .parents [(.sub (.sub (.l 1) (.c (.str [105,100,115]))) (.l 6))])) (.l 7)) [.ret (.c (.bool false))] []],
      .ret (.fn .pair_right [(.l 1),(.l 4),(.l 5),(.bin .sub (.l 2) (.c (.int 1))),(.fn .draw [(.l 0),(.l 2)])])]
noncomputable def b_law:List S :=
    [.asg (.v 1) (.fn .deck [(.l 0)]),
      .asg (.v 2) (.new .MemoryStore [(.new .CountingHasher [(.c (.int 4))])]),
      .asg (.v 3) (.dct [((.c (.str [115,116,111,114,101])),(.l 2)),((.c (.str [116,114,101,101])),(.me (.l 2) .write_tree [(.new .Tree [(.lst [])])])),((.c (.str [105,100,115])),(.lst [])),((.c (.str [114,111,119,115])),(.lst [])),((.c (.str [116,105,109,101,115])),(.lst []))]),
      .asg (.v 4) (.fn .rows [(.l 1)]),
      .for (.tup [(.v 5),(.v 6)]) (.zip (.l 4) (.fn .times [(.l 1),(.len (.l 4))])) [.ex (.fn .committed [(.l 3),(.l 5),(.l 6)])],
      .asg (.tup [(.v 7),(.v 8),(.v 9)]) (.tup [(.len (.l 4)),(.new .Walk [(.l 2)]),(.fn .reached [(.l 4),(.lst [])])]),
      .for (.v 10) (.range (.l 7)) [.ite (.or (.cmp .ne (.listOf (.me (.l 8) .parents [(.sub (.sub (.l 3) (.c (.str [105,100,115]))) (.l 10))])) (.comp (.sub (.sub (.l 4) (.c (.str [105,100,115]))) (.l 0)) 1 (.ex (.sub (.l 4) (.l 10))) none)) (.cmp .ne (.me (.l 8) .date [(.sub (.sub (.l 3) (.c (.str [105,100,115]))) (.l 10))]) (.sub (.sub (.l 3) (.c (.str [116,105,109,101,115]))) (.l 10)))) [.ret (.c (.bool false))] []],
      .asg (.v 11) (.lst [(.tup [(.bin .sub (.l 7) (.c (.int 1))),(.bin .sub (.l 7) (.c (.int 2)))]),(.tup [(.fn .draw [(.l 1),(.l 7)]),(.fn .draw [(.l 1),(.l 7)])])]),
      .for (.tup [(.v 12),(.v 13)]) (.ex (.l 11)) [.ite (.not (.e (.fn .pair_right [(.l 3),(.l 8),(.l 9),(.l 12),(.l 13)]))) [.ret (.c (.bool false))] []],
      .ite (.not (.e (.fn .lot_right [(.l 1),(.l 3),(.l 8),(.l 9)]))) [.ret (.c (.bool false))] [],
      .ite (.and (.cmp .eq (.fn .draw [(.l 1),(.c (.int 2))]) (.c (.int 0))) (.not (.e (.fn .border_right [(.l 1),(.l 3)])))) [.ret (.c (.bool false))] [],
      .ex (.fn .committed [(.l 3),(.lst [(.bin .sub (.l 7) (.c (.int 1))),(.bin .sub (.l 7) (.c (.int 2)))]),(.c (.int 1003))]),
      .asg (.tup [(.v 8),(.v 9)]) (.tup [(.new .Walk [(.l 2)]),(.fn .reached [(.sub (.l 3) (.c (.str [114,111,119,115]))),(.lst [])])]),
      .ite (.cmp .ne (.listOf (.me (.l 8) .merge_bases [(.sub (.sub (.l 3) (.c (.str [105,100,115]))) (.l 7)),(.sub (.sub (.l 3) (.c (.str [105,100,115]))) (.bin .sub (.l 7) (.c (.int 2))))])) (.lst [(.sub (.sub (.l 3) (.c (.str [105,100,115]))) (.bin .sub (.l 7) (.c (.int 2))))])) [.ret (.c (.bool false))] [],
      .ret (.fn .pair_right [(.l 3),(.l 8),(.l 9),(.l 7),(.fn .draw [(.l 1),(.l 7)])])]
noncomputable def b_passed:List S :=
    [.ret (.ite (.cmp .eq (.bin .band (.l 0) (.lc 3)) (.lc 3)) (.bin .bor (.l 0) (.lc 2)) (.l 0))]
noncomputable def infos:List FnInfo:=[
  { np:=1,ns:=3,body:=b_octets_of },
  { np:=1,ns:=3,body:=b_hex_of },
  { np:=2,ns:=2,body:=b_big_endian },
  { np:=2,ns:=2,dflt:=[.int 4],body:=b_hash_init },
  { np:=2,ns:=3,body:=b_digest },
  { np:=1,ns:=1,body:=b_rq_init },
  { np:=1,ns:=1,body:=b_many },
  { np:=3,ns:=5,body:=b_put },
  { np:=1,ns:=3,body:=b_take },
  { np:=1,ns:=5,body:=b_sink },
  { np:=4,ns:=4,body:=b_wc_init },
  { np:=1,ns:=4,body:=b_walked_once },
  { np:=2,ns:=2,body:=b_passed_whole },
  { np:=3,ns:=4,dflt:=[.tup []],body:=b_anc_init },
  { np:=2,ns:=4,body:=b_walked },
  { np:=2,ns:=2,body:=b_parents },
  { np:=2,ns:=2,body:=b_date },
  { np:=2,ns:=6,body:=b_level },
  { np:=3,ns:=10,body:=b_painted },
  { np:=3,ns:=8,body:=b_is_ancestor },
  { np:=2,ns:=10,hc:=[3,2],body:=b_best_common },
  { np:=3,ns:=3,body:=b_merge_bases },
  { np:=2,ns:=2,body:=b_merge_bases_many },
  { np:=2,ns:=6,body:=b_independent },
  { np:=3,ns:=6,body:=b_ahead_behind },
  { np:=5,ns:=5,body:=b_person_init },
  { np:=1,ns:=1,body:=b_person_octets },
  { np:=2,ns:=2,body:=b_tree_init },
  { np:=1,ns:=3,body:=b_tree_octets },
  { np:=1,ns:=6,body:=b_tree_faults },
  { np:=1,ns:=2,body:=b_check_tree },
  { np:=7,ns:=7,body:=b_commit_init },
  { np:=1,ns:=5,body:=b_commit_octets },
  { np:=2,ns:=2,body:=b_object_octets },
  { np:=2,ns:=2,body:=b_store_init },
  { np:=4,ns:=5,body:=b_keep },
  { np:=2,ns:=2,body:=b_write_tree },
  { np:=2,ns:=2,body:=b_write_commit },
  { np:=2,ns:=2,body:=b_row_of },
  { np:=3,ns:=5,body:=b_of_kind },
  { np:=2,ns:=2,body:=b_store_commit },
  { np:=1,ns:=4,body:=b_deck },
  { np:=2,ns:=4,body:=b_draw },
  { np:=2,ns:=2,body:=b_pick },
  { np:=2,ns:=7,body:=b_drawn_rows },
  { np:=2,ns:=3,body:=b_times },
  { np:=2,ns:=8,body:=b_reached },
  { np:=1,ns:=1,body:=b_rows },
  { np:=3,ns:=7,body:=b_committed },
  { np:=2,ns:=2,body:=b_best },
  { np:=5,ns:=11,body:=b_pair_right },
  { np:=4,ns:=10,body:=b_lot_right },
  { np:=2,ns:=8,body:=b_border_right },
  { np:=1,ns:=14,body:=b_law }]
noncomputable def infoOf (f:Fn):FnInfo:=nthD { np:=0,ns:=0,body:=[.stuck] } infos f
noncomputable def runClo (F:Fn→List V→CM V) (cells:List Nat) (vs:List V):CM V:=fun H Q =>
  (vs.length=2∧cells.length=2)∧evSs ⟨F,fun _ _ _ _=>False⟩ b_passed (vs.map some++cells.map fun i=>some (.cel i)) H (fun _ H=>Q .none H) Q fun _ _=>False
noncomputable def callN:Nat→Fn→List V→CM V
  | 0=>fun _ _ _ _=>False
  | d+1=>fun f vs=>runFn ⟨callN d,runClo (callN d)⟩ (infoOf f) vs
noncomputable def orc (d:Nat):Orc:=⟨callN d,runClo (callN d)⟩
theorem mS {α:Type}{a b:α} (h:a∈[b]):a=b:=List.mem_singleton.mp h
theorem mZ {α:Type}{a b:α}{l:List α} (h:a∈b :: l):a=b∨a∈l:=List.mem_cons.mp h
theorem mA {α:Type}{a:α}{l m:List α} (h:a∈l++m):a∈l∨a∈m:=List.mem_append.mp h
theorem gS {α:Type}{l:List α}{i:Nat}{a:α} (h:l[i]?=some a):∃ h:i < l.length,l[i]=a:=List.getElem?_eq_some_iff.mp h
theorem bO {a b:Bool} (h:(a || b)=true):a=true∨b=true:=Bool.or_eq_true_iff.mp h
theorem fC {α:Type}{p:α→Prop}{a:α}{l:List α} (h:p a∧∀ x,x∈l→p x):∀ x,x∈a :: l→p x:=List.forall_mem_cons.mpr h
end Mine
end
section
namespace Mine.Pl
noncomputable def stop (P:Prop):Prop:=P
noncomputable abbrev evE1 (O:Orc) (e:E) (loc:Loc):CM V:=match e with
  | .c v=>fun H Q=>Q v H
  | .bin op a b=>fun H Q=>evE O a loc H fun x H=>evE O b loc H fun y H=>binV op x y H Q
  | .neg a=>fun H Q=>evE O a loc H fun x H=>x.onInt fun i=>Q (.int (-i)) H
  | .cmp o a b=>fun H Q=>evE O a loc H fun x H=>evE O b loc H fun y H=>cmpB o x y H fun r H=>Q (.bool r) H
  | .ite t a b=>fun H Q=>evT O t loc H fun r H=>iteB r (evE O a loc H Q) (evE O b loc H Q)
  | .attr a f=>fun H Q=>evE O a loc H fun x H=>getF x f H Q
  | .sub a i=>fun H Q=>evE O a loc H fun x H=>evE O i loc H fun y H=>subV x y H Q
  | .upto a i=>fun H Q=>evE O a loc H fun x H=>evE O i loc H fun y H=>uptoV x y H Q
  | .rev a=>fun H Q=>evE O a loc H fun x H=>revV x H Q
  | .tup es=>fun H Q=>evEs O es loc H fun vs H=>Q (.tup vs) H
  | .lst es=>fun H Q=>evEs O es loc H fun vs H=>newList vs H Q
  | .dct kvs=>fun H Q=>evKs O kvs loc H fun vs H=>newDict vs H Q
  | .fn f es=>fun H Q=>evEs O es loc H fun vs H=>O.fn f vs H Q
  | .me o f es=>fun H Q=>evE O o loc H fun x H=>rdMeth f x H (evEs O es loc H fun vs H=>O.fn f (x :: vs) H Q)
  | .new c es=>fun H Q=>evEs O es loc H fun vs H=>O.fn (initOf c) (.inst c H.length :: vs) (H++[.flds c []]) fun r H'=>r = .none∧Q (.inst c H.length) H'
  | .len a=>fun H Q=>evE O a loc H fun x H=>lenV x H Q
  | .tuple a=>fun H Q=>evE O a loc H fun x H=>tupleV x H Q
  | .toInt a=>fun H Q=>evE O a loc H fun x H=>x.onInt fun i=>Q (.int i) H
  | .toBytes a=>fun H Q=>evE O a loc H fun x H=>bytesV x H Q
  | .ord a=>fun H Q=>evE O a loc H fun x H=>ordK x fun v=>Q v H
  | .sorted a=>fun H Q=>evE O a loc H fun x H=>sortedV x H Q
  | .max a=>fun H Q=>evE O a loc H fun x H=>maxV x H Q
  | .str a=>fun H Q=>evE O a loc H fun x H=>strK x fun v=>Q v H
  | .repr a=>fun H Q=>evE O a loc H fun x H=>reprV x H Q
  | .listOf a=>fun H Q=>evE O a loc H fun x H=>listV x H Q
  | .listRange a=>fun H Q=>evE O a loc H fun x H=>listRangeV x H Q
  | .app o x=>fun H Q=>evE O o loc H fun a H=>rdList a H (evE O x loc H fun b H=>appV a b H Q)
  | .pop o=>fun H Q=>evE O o loc H fun a H=>popV a H Q
  | .popAt o x=>fun H Q=>evE O o loc H fun a H=>rdList a H (evE O x loc H fun b H=>popAtV a b H Q)
  | .ext o x=>fun H Q=>evE O o loc H fun a H=>rdList a H (evE O x loc H fun b H=>extV a b H Q)
  | .join o x=>fun H Q=>evE O x loc H fun b H=>joinV o b H Q
  | e=>fun H Q=>stop (evE O e loc H Q)
noncomputable abbrev evEs1 (O:Orc) (es:List E) (loc:Loc):CM (List V):=match es with
  | []=>fun H Q=>Q [] H
  | e :: r=>fun H Q=>evE O e loc H fun v H=>evEs O r loc H fun vs H=>Q (v :: vs) H
noncomputable abbrev evKs1 (O:Orc) (es:List (E × E)) (loc:Loc):CM (List (V × V)):=match es with
  | []=>fun H Q=>Q [] H
  | (k,e) :: r=>fun H Q=>evE O k loc H fun x H=>evE O e loc H fun v H=>evKs O r loc H fun vs H=>Q ((x,v) :: vs) H
noncomputable abbrev evT1 (O:Orc) (t:T) (loc:Loc):CM Bool:=match t with
  | .e a=>fun H Q=>evE O a loc H fun x H=>x.onBool fun r=>Q r H
  | .not t=>fun H Q=>evT O t loc H fun r H=>Q (!r) H
  | .and a b=>fun H Q=>evT O a loc H fun r H=>iteB r (evT O b loc H Q) (Q false H)
  | .or a b=>fun H Q=>evT O a loc H fun r H=>iteB r (Q true H) (evT O b loc H Q)
  | .cmp o a b=>fun H Q=>evE O a loc H fun x H=>evE O b loc H fun y H=>cmpB o x y H Q
noncomputable abbrev evI1 (O:Orc) (t:It) (loc:Loc):CM Iter:=match t with
  | .ex a=>fun H Q=>evE O a loc H fun x H=>iterV x H fun i=>Q i H
  | .range a=>fun H Q=>evE O a loc H fun x H=>x.onInt fun n=>(0≤n∧n≤1000)∧Q (.vals (rangeVs n)) H
  | .enum a=>fun H Q=>evE O a loc H fun x H=>x.onRef fun i=>lstK H i fun _=>Q (.enum i) H
  | .zip a b=>fun H Q=>evE O a loc H fun x H=>evE O b loc H fun y H=>x.onRef fun i=>y.onRef fun j=>lstK H i fun _=>lstK H j fun _=>Q (.zip i j H.length) (H++[.buf])
noncomputable abbrev evS1 (O:Orc) (s:S) (loc:Loc):CS:=match s with
  | .asg t e=>fun H N _ _=>evE O e loc H fun v H=>asg O t v loc H N
  | .aug o f op e=>fun H N _ _=>evE O o loc H fun a H=>getF a f H fun x H=>evE O e loc H fun y H=>x.onInt fun i=>y.onInt fun j=>optK (intOp op i j) fun r=>setF a f (.int r) H fun H=>N loc H
  | .ex e=>fun H N _ _=>evE O e loc H fun v H=>plainV v=true∧N loc H
  | .ite t a b=>fun H N R Ct=>evT O t loc H fun r H=>iteB r (evSs O a loc H N R Ct) (evSs O b loc H N R Ct)
  | .for t it b=>fun H N R _=>evIt O it loc H fun i H=>forTurns i (asg O t) (evSs O b) fuelFor 0 loc H N R
  | .while t b=>fun H N R _=>whileTurns (evT O t) (evSs O b) fuelWhile loc H N R
  | .ret e=>fun H _ R _=>evE O e loc H R
  | .cont=>fun H _ _ Ct=>Ct loc H
  | s=>fun H N R Ct=>stop (evS O s loc H N R Ct)
noncomputable abbrev asg1 (O:Orc) (t:Tg) (x:V) (loc:Loc) (H:AH) (Q:Loc→AH→Prop):Prop:=match t with
  | .at o f=>evE O o loc H fun a H=>setF a f x H fun H=>Q loc H
  | .sb o i=>evE O o loc H fun a H=>evE O i loc H fun b H=>setI a b x H fun H=>Q loc H
  | t=>stop (asg O t x loc H Q)
noncomputable abbrev cmpI (o:Cm) (m n:Int):Option Bool:=match o with
  | .eq=>some (m == n)
  | .ne=>some (!(m == n))
  | .lt=>some (decide (m < n))
  | .le=>some (decide (m≤n))
  | .gt=>some (decide (n < m))
  | .ge=>some (decide (n≤m))
  | _=>none
theorem optK_of {α:Type}{o:Option α}{Q:α→Prop}{a:α} (h:o=some a) (q:Q a):optK o Q:=h▸q
theorem iteB_t {r:Bool}{a b:Prop} (h:r=true) (q:a):iteB r a b:=h▸q
theorem iteB_f {r:Bool}{a b:Prop} (h:r=false) (q:b):iteB r a b:=h▸q
theorem iteB_d {p:Prop} [Decidable p] {a b:Prop} (t:p→a) (f:¬p→b):iteB (decide p) a b:=by
  by_cases h:p
  · exact iteB_t (decide_eq_true h) (t h)
  · exact iteB_f (decide_eq_false h) (f h)
section
variable {O:Orc}{loc:Loc}{H:AH}{N:Loc→AH→Prop}{R:V→AH→Prop}{Ct:Loc→AH→Prop}{Q:V→AH→Prop}{B:Bool→AH→Prop}{a b:E}{es:List E}{v:V}{k:Nat}{f:Fn}{ss':List S}
theorem stE {e:E} (q:evE1 O e loc H Q):evE O e loc H Q:=by cases e<;>exact q
theorem stEs {Q:List V→AH→Prop} (q:evEs1 O es loc H Q):evEs O es loc H Q:=by cases es<;>exact q
theorem stK {r:List (E × E)}{Q:List (V × V)→AH→Prop} (q:evKs1 O r loc H Q):evKs O r loc H Q:=by cases r<;>exact q
theorem stT {t:T} (q:evT1 O t loc H B):evT O t loc H B:=by cases t<;>exact q
theorem stI {i:It}{I:Iter→AH→Prop} (q:evI1 O i loc H I):evIt O i loc H I:=by cases i<;>exact q
theorem stS {s:S} (q:evS1 O s loc H N R Ct):evS O s loc H N R Ct:=by cases s<;>exact q
theorem stG {t:Tg}{L:Loc→AH→Prop} (q:asg1 O t v loc H L):asg O t v loc H L:=by cases t<;>exact q
theorem e_l0 (q:locK loc[k]? fun v=>Q v H):evE O (.l k) loc H Q:=q
theorem e_l {o:Option (Option V)}{Q:V→Prop} (h:o=some (some v)) (n:notCel v=true) (q:Q v):locK o Q:=optK_of h (optK_of rfl ⟨n,q⟩)
theorem e_lc {i:Nat} (h:loc[k]?=some (some (.cel i))) (c:H[i]?=some (.cell (some v))) (q:Q v H):evE O (.lc k) loc H Q:=optK_of h (optK_of rfl (show celK H i _ from optK_of c (optK_of rfl q)))
theorem e_tup (q:evEs O es loc H fun vs H=>Q (.tup vs) H):evE O (.tup es) loc H Q:=q
theorem e_fn (q:evEs O es loc H fun vs H=>O.fn f vs H Q):evE O (.fn f es) loc H Q:=q
theorem e_new {c:Cls} (q:evEs O es loc H fun vs H=>O.fn (initOf c) (.inst c H.length :: vs) (H++[.flds c []]) fun r H'=>r = .none∧Q (.inst c H.length) H'):evE O (.new c es) loc H Q:=q
theorem e_len (q:evE O a loc H fun x H=>lenV x H Q):evE O (.len a) loc H Q:=q
theorem es_c {Q:List V→AH→Prop} (q:evE O a loc H fun v H=>evEs O es loc H fun vs H=>Q (v :: vs) H):evEs O (a :: es) loc H Q:=q
variable {t u:T}{i:It}{I:Iter→AH→Prop}
theorem op_loc {L:Loc} (q:∀ l,l=L→evSs O ss' l H N R Ct):evSs O ss' L H N R Ct:=q L rfl
theorem e_lv (h:loc[k]?=some (some v)) (n:notCel v=true) (q:Q v H):evE O (.l k) loc H Q:=e_l h n q
theorem e_lg {l L:Loc} (h:l=L) (e:L[k]?=some (some v)) (n:notCel v=true) (q:Q v H):evE O (.l k) l H Q:=h▸e_lv e n q
variable {L:Loc→AH→Prop}{x:V}{vs:List V}{ts:List Tg}{tg:Tg}
theorem g_v (n:(loc[k]?.any notCelO)=true) (q:L (loc.set k (some x)) H):asg O (.v k) x loc H L:=by
  show optK loc[k]? _
  cases h:loc[k]? with
  | none=>rw [h] at n;cases n
  | some o=>rw [h] at n;exact ⟨n,q⟩
theorem g_vg {l M:Loc} (h:l=M) (n:(M[k]?.any notCelO)=true) (q:∀ l',l'=M.set k (some x)→L l' H):asg O (.v k) x l H L:=h▸g_v n (q _ rfl)
theorem g_vc {i:Nat}{o:Option V} (h:loc[k]?=some (some (.cel i))) (c:H[i]?=some (.cell o)) (q:L loc (H.set i (.cell (some x)))):asg O (.vc k) x loc H L:=optK_of h (optK_of rfl (show celK H i _ from optK_of c q))
theorem g_tup (h:ts.length=vs.length) (q:asgs O ts vs loc H L):asg O (.tup ts) (.tup vs) loc H L:=⟨h,q⟩
theorem gs_n (q:L loc H):asgs O [] vs loc H L:=q
theorem gs_c (q:asg O tg v loc H fun loc H=>asgs O ts vs loc H L):asgs O (tg :: ts) (v :: vs) loc H L:=q
variable {s:S}{ss bd:List S}
theorem s_asg (q:evE O a loc H fun v H=>asg O tg v loc H N):evS O (.asg tg a) loc H N R Ct:=q
theorem s_while (q:whileTurns (evT O t) (evSs O bd) fuelWhile loc H N R):evS O (.while t bd) loc H N R Ct:=q
theorem s_ret (q:evE O a loc H R):evS O (.ret a) loc H N R Ct:=q
theorem ss_n (q:N loc H):evSs O [] loc H N R Ct:=q
theorem ss_c (q:evS O s loc H (fun loc H=>evSs O ss loc H N R Ct) R Ct):evSs O (s :: ss) loc H N R Ct:=q
end
section
variable {H:AH}{Q:V→AH→Prop}{B:Bool→AH→Prop}{P:Prop}{U:AH→Prop}{i j:Nat}{c:Cls}{fs:List (Fd × V)}{f:Fd}{vs ws:List V}{kvs:List (K × V)}{u v x y:V}{m n:Int}{k:K}{bs ds:List UInt8}{r:Bool}
theorem getF_of (h:H[i]?=some (.flds c fs)) (e:fs.lookup f=some v) (q:Q v H):getF (.inst c i) f H Q:=optK_of h ⟨rfl,optK_of e q⟩
theorem setF_of (h:H[i]?=some (.flds c fs)) (hf:f∈fieldsOf c) (hl:fs.length < 100) (q:U (H.set i (.flds c (putF fs f x)))):setF (.inst c i) f x H U:=optK_of h ⟨rfl,⟨hf,hl⟩,q⟩
theorem rdMeth_of {f:Fn} (h:H[i]?=some (.flds c fs)) (m:(methOf c).contains f=true) (q:P):rdMeth f (.inst c i) H P:=optK_of h ⟨rfl,m,q⟩
theorem rdList_of (h:H[i]?=some (.list vs)) (q:P):rdList (.ref i) H P:=optK_of h q
theorem newList_of (h:vs.length≤lim) (q:Q (.ref H.length) (H++[.list vs])):newList vs H Q:=⟨h,q⟩
theorem place_of {a:Nat} (h:a < vs.length):place vs.length (a:Int)=some a:=(if_pos (Int.natCast_nonneg _)).trans (if_pos (Int.ofNat_lt.mpr h))
theorem sub_list {a:Nat} (h:H[i]?=some (.list vs)) (hl:vs.length≤lim) (e:vs[a]?=some v) (hn:n=(a:Int)) (q:Q v H):subV (.ref i) (.int n) H Q :=
  .inl (optK_of h (.inl ⟨hl,optK_of (by rw [hn,place_of (gS e).1];exact e) q⟩))
theorem sub_listI (h:H[i]?=some (.list vs)) (hl:vs.length≤lim) (e:(place vs.length n).bind (vs[·]?)=some v) (q:Q v H):subV (.ref i) (.int n) H Q:=.inl (optK_of h (.inl ⟨hl,optK_of e q⟩))
theorem sub_dict (h:H[i]?=some (.dict kvs)) (hk:x.key=some k) (ha:kvs.all (fun e=>e.1.sameKind k)=true) (e:kvs.lookup k=some v) (q:Q v H):subV (.ref i) x H Q:=.inl (optK_of h (.inr (optK_of hk ⟨ha,optK_of e q⟩)))
theorem sub_tup (hl:vs.length≤lim) (e:(place vs.length n).bind (vs[·]?)=some v) (q:Q v H):subV (.tup vs) (.int n) H Q:=.inr (.inl ⟨hl,optK_of e q⟩)
theorem sub_str {s:List Nat}{d:Nat} (hl:s.length≤lim) (e:(place s.length n).bind (s[·]?)=some d) (q:Q (.str [d]) H):subV (.str s) (.int n) H Q:=.inr (.inr ⟨hl,optK_of e q⟩)
theorem set_list {a:Nat} (h:H[i]?=some (.list vs)) (hl:vs.length≤lim) (ha:a < vs.length) (hn:n=(a:Int)) (q:U (H.set i (.list (vs.set a x)))):setI (.ref i) (.int n) x H U:=by
  subst hn
  exact optK_of h (.inl ⟨⟨Int.natCast_nonneg _,Int.ofNat_lt.mpr ha,hl⟩,q⟩)
theorem set_dict (h:H[i]?=some (.dict kvs)) (hk:y.key=some k) (ha:kvs.all (fun e=>e.1.sameKind k)=true) (hl:kvs.length < lim) (q:U (H.set i (.dict (putK kvs k x)))):setI (.ref i) y x H U:=optK_of h (.inr (optK_of hk ⟨⟨ha,hl⟩,q⟩))
theorem len_list (h:H[i]?=some (.list vs)) (hl:vs.length≤lim) (q:Q (.int vs.length) H):lenV (.ref i) H Q:=.inl (optK_of h (.inl ⟨hl,q⟩))
theorem len_dict (h:H[i]?=some (.dict kvs)) (hl:kvs.length≤lim) (q:Q (.int kvs.length) H):lenV (.ref i) H Q:=.inl (optK_of h (.inr ⟨hl,q⟩))
theorem len_bytes (hl:bs.length≤lim) (q:Q (.int bs.length) H):lenV (.bytes bs) H Q:=.inr ⟨hl,q⟩
theorem in_list (h:H[i]?=some (.list vs)) (e:anyEq x vs=some r) (q:B r H):inV x (.ref i) H B:=optK_of h (.inl (optK_of e q))
theorem in_dict (h:H[i]?=some (.dict kvs)) (hk:x.key=some k) (ha:kvs.all (fun e=>e.1.sameKind k)=true) (q:B (kvs.lookup k).isSome H):inV x (.ref i) H B:=optK_of h (.inr (optK_of hk ⟨ha,q⟩))
theorem app_of (h:H[i]?=some (.list vs)) (hl:vs.length < lim) (q:Q .none (H.set i (.list (vs++[x])))):appV (.ref i) x H Q:=optK_of h ⟨hl,q⟩
theorem pop_of (h:H[i]?=some (.list vs)) (hl:vs.length≤lim) (e:vs.getLast?=some x) (q:Q x (H.set i (.list vs.dropLast))):popV (.ref i) H Q:=optK_of h ⟨hl,optK_of e q⟩
theorem ext_of (n:i≠j) (h:H[i]?=some (.list vs)) (h2:H[j]?=some (.list ws)) (hl:vs.length+ws.length≤lim) (q:Q .none (H.set i (.list (vs++ws)))):extV (.ref i) (.ref j) H Q:=⟨n,optK_of h (optK_of h2 ⟨hl,q⟩)⟩
theorem rev_of (h:H[i]?=some (.list vs)) (hl:vs.reverse.length≤lim) (q:Q (.ref H.length) (H++[.list vs.reverse])):revV (.ref i) H Q:=optK_of h ⟨hl,q⟩
theorem tuple_tup (q:Q (.tup vs) H):tupleV (.tup vs) H Q:=.inl q
theorem tuple_list (h:H[i]?=some (.list vs)) (hl:vs.length≤lim) (q:Q (.tup vs) H):tupleV (.ref i) H Q:=.inr (optK_of h ⟨hl,q⟩)
theorem list_tup (hl:vs.length≤lim) (q:Q (.ref H.length) (H++[.list vs])):listV (.tup vs) H Q:=.inl ⟨hl,q⟩
theorem list_list (h:H[i]?=some (.list vs)) (hl:vs.length≤lim) (q:Q (.ref H.length) (H++[.list vs])):listV (.ref i) H Q:=.inr (optK_of h ⟨hl,q⟩)
theorem bytes_bytes (q:Q (.bytes bs) H):bytesV (.bytes bs) H Q:=.inl q
theorem bytes_list (h:H[i]?=some (.list vs)) (hl:vs.length≤lim) (e:vs.mapM byteOf=some bs) (q:Q (.bytes bs) H):bytesV (.ref i) H Q:=.inr (optK_of h ⟨hl,optK_of e q⟩)
theorem upto_two {a b d:V} (q:Q (.tup [a,b]) H):uptoV (.tup [a,b,d]) (.int 2) H Q:=.inl ⟨rfl,_,_,_,rfl,q⟩
theorem add_int (q:Q (.int (m+n)) H):binV .add (.int m) (.int n) H Q:=.inl q
theorem sub_int (q:Q (.int (m - n)) H):binV .sub (.int m) (.int n) H Q:=.inl q
theorem bin_intI {op:Op}{z:Int} (h:intOp op m n=some z) (q:Q (.int z) H):binV op (.int m) (.int n) H Q:=.inl (optK_of h q)
theorem add_bytes (hl:bs.length+ds.length≤lim) (q:Q (.bytes (bs++ds)) H):binV .add (.bytes bs) (.bytes ds) H Q:=.inr (.inl ⟨rfl,hl,q⟩)
theorem add_lists (h:H[i]?=some (.list vs)) (h2:H[j]?=some (.list ws)) (hl:(vs++ws).length≤lim) (q:Q (.ref H.length) (H++[.list (vs++ws)])):binV .add (.ref i) (.ref j) H Q:=.inr (.inr (.inl ⟨rfl,optK_of h (optK_of h2 ⟨hl,q⟩)⟩))
theorem stC {o:Cm}{r:Bool} (h:cmpI o m n=some r) (q:B r H):cmpB o (.int m) (.int n) H B:=by
  cases o with
  | eq=>exact .inr (.inr (show B (m == n) H from Option.some.inj h▸q))
  | ne=>exact .inr (.inr (show B (!(m == n)) H from Option.some.inj h▸q))
  | lt=>exact .inl (show B (decide (m < n)) H from Option.some.inj h▸q)
  | le=>exact .inl (show B (decide (m≤n)) H from Option.some.inj h▸q)
  | gt=>exact (show B (decide (n < m)) H from Option.some.inj h▸q)
  | ge=>exact (show B (decide (n≤m)) H from Option.some.inj h▸q)
  | isin=>exact nomatch h
  | nin=>exact nomatch h
theorem eq_bytes (q:B (bs == ds) H):cmpB .eq (.bytes bs) (.bytes ds) H B:=.inr (.inr q)
theorem ne_bytes (q:B (!(bs == ds)) H):cmpB .ne (.bytes bs) (.bytes ds) H B:=.inr (.inr q)
theorem eq_list (h:H[i]?=some (.list vs)) (h2:H[j]?=some (.list ws)) (e:eqSeq vs ws=some r) (q:B r H):cmpB .eq (.ref i) (.ref j) H B:=.inl (optK_of h (optK_of h2 (optK_of e q)))
theorem ne_list (h:H[i]?=some (.list vs)) (h2:H[j]?=some (.list ws)) (e:eqSeq vs ws=some r) (q:B (!r) H):cmpB .ne (.ref i) (.ref j) H B:=.inl (optK_of h (optK_of h2 (optK_of e q)))
end
noncomputable abbrev Gr:=List (List Nat)
noncomputable def par (g:Gr) (k:Nat):List Nat:=g.getD k []
noncomputable def maxN:List Nat→Nat
  | []=>0
  | a :: r=>Nat.max a (maxN r)
noncomputable def levsGo:Gr→List Nat→List Nat
  | [],ls=>ls
  | row :: r,ls=>levsGo r (ls++[1+maxN (row.map fun j=>ls.getD j 0)])
noncomputable def levs (g:Gr):List Nat:=levsGo g []
noncomputable def lev (g:Gr) (k:Nat):Nat:=(levs g).getD k 0
noncomputable abbrev Qr:=Nat × Nat × Nat
noncomputable def qlt (a b:Qr):Bool:=if a.1 == b.1 then Nat.blt a.2.1 b.2.1 else Nat.blt b.1 a.1
noncomputable def qle (a b:Qr):Bool:=if a.1 == b.1 then Nat.ble a.2.1 b.2.1 else Nat.blt b.1 a.1
noncomputable def q0:Qr:=(0,0,0)
noncomputable def swapQ (rows:List Qr) (i j:Nat):List Qr:=(rows.set i (rows.getD j q0)).set j (rows.getD i q0)
noncomputable def siftUp:Nat→List Qr→Nat→List Qr
  | 0,rows,_=>rows
  | _+1,rows,0=>rows
  | n+1,rows,at'+1=>if qle (rows.getD (at' / 2) q0) (rows.getD (at'+1) q0) then rows else siftUp n (swapQ rows (at' / 2) (at'+1)) (at' / 2)
noncomputable def putQ (rows:List Qr) (x:Qr):List Qr:=siftUp 20 (rows++[x]) rows.length
noncomputable def least1 (rows:List Qr) (least below:Nat):Nat:=if Nat.blt below rows.length && qlt (rows.getD below q0) (rows.getD least q0) then below else least
noncomputable def sinkQ:Nat→List Qr→Nat→List Qr
  | 0,rows,_=>rows
  | n+1,rows,a=>match least1 rows (least1 rows a (2 * a+1)) (2 * a+2) with
    | l=>if l == a then rows else sinkQ n (swapQ rows l a) l
noncomputable def takeQ (rows:List Qr):Nat × List Qr:=match rows.dropLast with
  | []=>((rows.getD 0 q0).2.2,[])
  | r'=>((rows.getD 0 q0).2.2,sinkQ 20 (r'.set 0 (rows.getD (rows.length - 1) q0)) 0)
noncomputable abbrev Fl:=List (Nat × Nat)
noncomputable def look (f:Fl) (k:Nat):Option Nat:=match f with
  | []=>none
  | (a,v) :: r=>if a == k then some v else look r k
noncomputable def putN (f:Fl) (k v:Nat):Fl:=match f with
  | []=>[(k,v)]
  | (a,w) :: r=>if a == k then (a,v) :: r else (a,w) :: putN r k v
structure PS where
  flags:Fl
  rows:List Qr
  came:Nat
noncomputable def mark (g:Gr) (s:PS) (k m:Nat):PS:=match look s.flags k with
  | none=>⟨putN s.flags k m,putQ s.rows (lev g k,s.came,k),s.came+1⟩
  | some v=>⟨putN s.flags k (v ||| m),s.rows,s.came⟩
noncomputable def markAll (g:Gr) (s:PS):List (Nat × Nat)→PS
  | []=>s
  | (k,m) :: r=>markAll g (mark g s k m) r
noncomputable def spread (g:Gr) (pf:Nat→Nat) (k:Nat) (s:PS):List Nat→PS
  | []=>s
  | p :: r=>match pf ((look s.flags k).getD 0) with
    | 0=>spread g pf k s r
    | m=>spread g pf k (mark g s p m) r
noncomputable def paintGo (g:Gr) (pf:Nat→Nat):Nat→PS→List Nat→List Nat × Fl
  | 0,s,o=>(o,s.flags)
  | n+1,s,o=>match s.rows with
    | []=>(o,s.flags)
    | _=>match takeQ s.rows with
      | (k,rows)=>paintGo g pf n (spread g pf k ⟨s.flags,rows,s.came⟩ (par g k)) (o++[k])
noncomputable def painted (g:Gr) (pf:Nat→Nat) (begun:List (Nat × Nat)):List Nat × Fl:=paintGo g pf 40 (markAll g ⟨[],[],0⟩ begun) []
noncomputable def insN (v:Nat):List Nat→List Nat
  | []=>[v]
  | x :: r=>if Nat.blt v x then v :: x :: r else x :: insN v r
noncomputable def isortN:List Nat→List Nat
  | []=>[]
  | v :: r=>insN v (isortN r)
noncomputable def begunOf:Nat→List (List Nat)→List (Nat × Nat)
  | _,[]=>[]
  | n,ids :: r=>ids.map (fun k=>(k,2 ^ n))++begunOf (n+1) r
noncomputable def passP (n marks:Nat):Nat:=if marks &&& (2 ^ n - 1) == 2 ^ n - 1 then marks ||| 2 ^ n else marks
noncomputable def bestCommon (g:Gr) (groups:List (List Nat)):List Nat:=match painted g (passP groups.length) (begunOf 0 groups) with
  | (order,flags)=>isortN (order.filter fun k=>look flags k == some (2 ^ groups.length - 1))
noncomputable def mergeBases (g:Gr) (a b:Nat):List Nat:=bestCommon g [[a],[b]]
noncomputable def mergeMany (g:Gr) (l:List Nat):List Nat:=match l with
  | []=>[]
  | l=>bestCommon g (l.map fun k=>[k])
noncomputable def onceN:List Nat→List Nat→List Nat
  | _,[]=>[]
  | seen,k :: r=>if seen.contains k then onceN seen r else k :: onceN (k :: seen) r
noncomputable def independent (g:Gr) (l:List Nat):List Nat:=match onceN [] l with
  | ks=>match painted g id (ks.flatMap fun k=>(par g k).map fun p=>(p,1)) with
    | (_,flags)=>ks.filter fun k=>(look flags k).isNone
noncomputable def aheadBehind (g:Gr) (a b:Nat):Nat × Nat:=match painted g id [(a,1),(b,2)] with
  | (order,flags)=>((order.filter fun k=>look flags k == some 1).length,(order.filter fun k=>look flags k == some 2).length)
noncomputable def ancRow (g:Gr) (one least:Nat):List Nat→List Nat→List Nat→Option (List Nat × List Nat)
  | [],seen,wait=>some (seen,wait)
  | p :: r,seen,wait=>if p == one then none else if !seen.contains p && Nat.blt least (lev g p) then ancRow g one least r (p :: seen) (wait++[p]) else ancRow g one least r seen wait
noncomputable def ancGo (g:Gr) (one least:Nat):Nat→List Nat→List Nat→Bool
  | 0,_,_=>false
  | n+1,seen,wait=>match wait with
    | []=>false
    | _=>match ancRow g one least (par g (wait.getD (wait.length - 1) 0)) seen wait.dropLast with
      | none=>true
      | some (seen,wait)=>ancGo g one least n seen wait
noncomputable def isAnc (g:Gr) (a b:Nat):Bool:=if a == b then true else if Nat.ble (lev g b) (lev g a) then false else ancGo g a (lev g a) 40 [b] [b]
noncomputable def addN (k:Nat) (l:List Nat):List Nat:=if l.contains k then l else l++[k]
noncomputable def addAll:List Nat→List Nat→List Nat
  | l,[]=>l
  | l,k :: r=>addAll (addN k l) r
noncomputable def reachGo:Nat→Gr→List (List Nat)→List (List Nat)
  | _,[],found=>found
  | k,row :: r,found=>reachGo (k+1) r (found++[isortN (addAll [k] (row.flatMap fun j=>found.getD j []))])
noncomputable def reached (g:Gr):List (List Nat):=reachGo 0 g []
noncomputable def bestP (re:List (List Nat)) (common:List Nat):List Nat:=common.filter fun x=>(common.filter fun y=>y != x && (re.getD y []).contains x) == []
noncomputable def pairChk (g:Gr) (re:List (List Nat)) (a b:Nat):Bool:=match re.getD a [],re.getD b [] with
  | ra,rb=>match ra.filter fun x=>rb.contains x with
    | common=>match isortN (bestP re common) with
      | due=>(mergeBases g a b == due) && (mergeBases g b a == due) && (isAnc g a b == rb.contains a) && (isAnc g b a == ra.contains b) &&
        (aheadBehind g a b == ((ra.filter fun x=>!rb.contains x).length,(rb.filter fun x=>!ra.contains x).length))
noncomputable def lotChk (g:Gr) (re:List (List Nat)) (lot:List Nat):Bool:=match (List.range g.length).filter fun x=>!lot.isEmpty && (lot.filter fun k=>!(re.getD k []).contains x) == [] with
  | common=>(mergeMany g lot == isortN (bestP re common)) && match onceN [] lot with
    | once=>independent g lot == once.filter fun k=>(once.filter fun j=>j != k && (re.getD j []).contains k) == []
noncomputable def pairs (g:Gr):Bool:=match reached g with
  | re=>(List.range g.length).all fun a=>(List.range g.length).all fun b=>pairChk g re a b
noncomputable def lotsOf (n:Nat):Nat→List (List Nat)
  | 0=>[[]]
  | m+1=>(List.range n).flatMap fun k=>(lotsOf n m).map fun l=>k :: l
noncomputable def lots (g:Gr):Bool:=match reached g with
  | re=>[0,1,2,3].all fun m=>(lotsOf g.length m).all fun l=>lotChk g re l
noncomputable def picks:Nat→List Nat→List (List Nat)
  | 0,_=>[[]]
  | m+1,l=>[] :: l.flatMap fun k=>(picks m (l.filter (· != k))).map fun r=>k :: r
noncomputable def rowsAt (k:Nat):List (List Nat):=(picks 3 (List.range k)).eraseDups
noncomputable def famN:Nat→List Gr
  | 0=>[[]]
  | n+1=>(famN n).flatMap fun g=>(rowsAt n).map fun r=>g++[r]
noncomputable def criss:Gr:=[[],[0],[0],[1,2],[2,1]]
noncomputable def cut (g:Gr) (border:List Nat):Gr:=g.mapIdx fun k row=>if border.contains k then [] else row
structure Kp (S:List Nat) (H H':AH):Prop where
  len:H.length≤H'.length
  get:∀ i,i < H.length→i∉S→H'[i]?=H[i]?
theorem Kp.refl {S:List Nat}{H:AH}:Kp S H H:=⟨Nat.le_refl _,fun _ _ _=>rfl⟩
theorem Kp.trans {S T:List Nat}{H H₁ H₂:AH} (a:Kp S H H₁) (b:Kp T H₁ H₂):Kp (S++T) H H₂ :=
  ⟨Nat.le_trans a.len b.len,fun i h n=>(b.get i (Nat.lt_of_lt_of_le h a.len) fun m=>n (List.mem_append_right _ m)).trans (a.get i h fun m=>n (List.mem_append_left _ m))⟩
theorem Kp.mono {S T:List Nat}{H H':AH} (a:Kp S H H') (h:∀ i,i < H.length→i∈S→i∈T):Kp T H H':=⟨a.len,fun i hi n=>a.get i hi fun m=>n (h i hi m)⟩
theorem Kp.then {S:List Nat}{H H₁ H₂:AH} (a:Kp S H H₁) (b:Kp S H₁ H₂):Kp S H H₂:=(a.trans b).mono fun i _ m=>by simpa using m
theorem Kp.app {S:List Nat}{H X:AH}:Kp S H (H++X):=⟨by simp,fun i h _=>List.getElem?_append_left h⟩
theorem Kp.set {S:List Nat}{H:AH}{i:Nat}{o:AObj} (m:i∈S):Kp S H (H.set i o):=⟨by simp,fun j _ n=>List.getElem?_set_ne fun q=>n (by rw [← q];exact m)⟩
theorem lt_of {H:AH}{i:Nat}{o:AObj} (h:H[i]?=some o):i < H.length:=(gS h).1
theorem Kp.at {S:List Nat}{H H':AH} (a:Kp S H H') {i:Nat}{o:AObj} (h:H[i]?=some o) (n:i∉S):H'[i]?=some o:=(a.get i (lt_of h) n).trans h
theorem ne_of {H:AH}{i j:Nat}{o o':AObj} (h:H[i]?=some o) (h':H[j]?=some o') (n:o≠o'):i≠j:=fun q=>n (by subst q;rw [h] at h';exact Option.some.inj h')
section
variable {H X:AH}{i j:Nat}{c c':Cls}
theorem get_new {o:AObj}:(H++[o])[H.length]?=some o:=by simp
theorem get_app {o:AObj} (h:H[i]?=some o):(H++X)[i]?=some o:=by rw [List.getElem?_append_left (lt_of h)];exact h
theorem get_ne {o o':AObj} (h:H[i]?=some o) (n:j≠i):(H.set j o')[i]?=some o:=by rw [List.getElem?_set_ne n];exact h
theorem get_set {o o':AObj} (h:H[i]?=some o):(H.set i o')[i]?=some o':=List.getElem?_set_self (lt_of h)
end
noncomputable def idb (k:Nat):List UInt8:=[0,0,0,UInt8.ofNat (k+2)]
noncomputable abbrev idv (k:Nat):V:=.bytes (idb k)
theorem idb_n {i:Nat} (h:i < 250):(UInt8.ofNat (i+2)).toNat=i+2:=Nat.mod_eq_of_lt (Nat.lt_of_lt_of_le (Nat.add_lt_add_right h 2) (by decide))
theorem idb_8 {i j:Nat} (hi:i < 250) (hj:j < 250) (h:UInt8.ofNat (i+2)=UInt8.ofNat (j+2)):i=j:=Nat.add_right_cancel ((idb_n hi).symm.trans ((congrArg UInt8.toNat h).trans (idb_n hj)))
theorem idb_inj {i j:Nat} (hi:i < 250) (hj:j < 250) (h:idb i=idb j):i=j:=idb_8 hi hj (List.cons.inj (List.cons.inj (List.cons.inj (List.cons.inj h).2).2).2).1
theorem idb_lt {i j:Nat} (hi:i < 250) (hj:j < 250):bltB (idb i) (idb j)=decide (i < j):=by
  show (if UInt8.ofNat (i+2)=UInt8.ofNat (j+2) then bltB [] [] else decide (UInt8.ofNat (i+2) < UInt8.ofNat (j+2)))=_
  by_cases h:i=j
  · rw [h,if_pos rfl,decide_eq_false (Nat.lt_irrefl j)]
    rfl
  · rw [if_neg fun q=>h (idb_8 hi hj q)]
    refine decide_eq_decide.mpr ?_
    rw [UInt8.lt_iff_toNat_lt,idb_n hi,idb_n hj]
    exact Nat.add_lt_add_iff_right
noncomputable def rv (r:Qr):V:=.tup [.int (-(r.1:Int)),.int (r.2.1:Int),idv r.2.2]
noncomputable abbrev qf (L c:Nat):AObj:=.flds .RankQueue [(.rows,.ref L),(.came,.int (c:Int))]
theorem le_rv {a b:Qr}{H:AH}{B:Bool→AH→Prop} (q:B (qle a b) H):cmpB .le (.tup [.int (-(a.1:Int)),.int (a.2.1:Int)]) (.tup [.int (-(b.1:Int)),.int (b.2.1:Int)]) H B:=by
  refine .inr ⟨_,_,_,_,rfl,rfl,?_⟩
  refine cast (congrArg (fun z=>B z H) ?_) q
  unfold qle
  by_cases h:a.1=b.1
  · simp [h]
    rw [Bool.eq_iff_iff];simp [Nat.ble_eq]
  · have:¬ (-(a.1:Int)=-(b.1:Int)):=by omega
    simp only [this,if_false,beq_iff_eq,h]
    rw [Bool.eq_iff_iff];simp [Nat.blt_eq]
theorem lt_rv {a b:Qr}{H:AH}{B:Bool→AH→Prop} (q:B (qlt a b) H):cmpB .lt (.tup [.int (-(a.1:Int)),.int (a.2.1:Int)]) (.tup [.int (-(b.1:Int)),.int (b.2.1:Int)]) H B:=by
  refine .inr ⟨_,_,_,_,rfl,rfl,?_⟩
  refine cast (congrArg (fun z=>B z H) ?_) q
  unfold qlt
  by_cases h:a.1=b.1
  · simp [h]
    rw [Bool.eq_iff_iff];simp [Nat.blt_eq]
  · have:¬ (-(a.1:Int)=-(b.1:Int)):=by omega
    simp only [this,if_false,beq_iff_eq,h]
    rw [Bool.eq_iff_iff];simp [Nat.blt_eq]
theorem map_rv_get {rows:List Qr}{m:Nat} (h:m < rows.length):(rows.map rv)[m]?=some (rv (rows.getD m q0)):=by
  rw [List.getElem?_map,List.getElem?_eq_getElem h]
  simp [List.getD,h]
theorem swapQ_len (rows:List Qr) (i j:Nat):(swapQ rows i j).length=rows.length:=by unfold swapQ;simp
theorem swapQ_map (rows:List Qr) (i j:Nat):((rows.map rv).set i (rv (rows.getD j q0))).set j (rv (rows.getD i q0))=(swapQ rows i j).map rv:=by
  unfold swapQ;rw [← List.map_set,← List.map_set]
theorem call_of {d:Nat}{f:Fn}{vs:List V}{H:AH}{Q:V→AH→Prop}{s:S}{ss:List S}{loc:Loc} (hl:(withDflt (infoOf f) vs).length=(infoOf f).np) (hc:(infoOf f).hc=[]) (hs:startLoc (infoOf f).ns (withDflt (infoOf f) vs)=loc) (hb:(infoOf f).body=s :: ss)
    (q:evSs (orc d) (s :: ss) loc H (fun _ H=>Q .none H) Q fun _ _=>False):callN (d+1) f vs H Q:=by
  refine ⟨hl,?_⟩
  rw [hc,hs,hb]
  exact q
theorem w_s {test:Loc→CM Bool}{body:Loc→CS}{n:Nat}{loc:Loc}{H:AH}{N:Loc→AH→Prop}{R:V→AH→Prop} (q:test loc H fun r H=>iteB r (body loc H (fun loc H=>whileTurns test body n loc H N R) R (fun loc H=>whileTurns test body n loc H N R)) (N loc H)):whileTurns test body (n+1) loc H N R:=q
theorem fdiv_two {x:Int}{n:Nat}{Q:V→AH→Prop}{H:AH} (h:x=(n:Int)) (q:Q (.int (n / 2:Nat)) H):binV .fdiv (.int x) (.int 2) H Q:=by
  have e:Int.fdiv (n:Int) 2=((n / 2:Nat):Int):=by rw [Int.fdiv_eq_ediv_of_nonneg _ (by decide)];rfl
  subst h
  exact bin_intI (if_pos (c:=0 < (2:Int)∧(2:Int) < 1000) (by decide) (t:=some ((n:Int).fdiv 2)) (e:=none)) (e▸q)
noncomputable abbrev lv (rows:List Qr):AObj:=.list (rows.map rv)
theorem upto2 {a:Qr}{H:AH}{Q:V→AH→Prop} (q:Q (.tup [.int (-(a.1:Int)),.int (a.2.1:Int)]) H):uptoV (rv a) (.int 2) H Q:=upto_two q
theorem on_int {m:Int}{k:Int→Prop} (q:k m):V.onInt (.int m) k:=q
theorem on_bool {m:Bool}{k:Bool→Prop} (q:k m):V.onBool (.bool m) k:=q
theorem on_ref {m:Nat}{k:Nat→Prop} (q:k m):V.onRef (.ref m) k:=q
theorem on_tup {m:List V}{k:List V→Prop} (q:k m):V.onTup (.tup m) k:=q
theorem on_inst {c:Cls}{m:Nat}{k:Cls→Nat→Prop} (q:k c m):V.onInst (.inst c m) k:=q
theorem fn_of {d:Nat}{f:Fn}{vs:List V}{H:AH}{Q:V→AH→Prop} (q:callN d f vs H Q):(orc d).fn f vs H Q:=q
theorem lim_of {n:Nat} (h:Nat.ble n 100000=true):n≤lim:=Nat.le_of_ble_eq_true h
theorem lim_lt {n:Nat} (h:Nat.blt n 100000=true):n < lim:=Nat.le_of_ble_eq_true h
section
variable {O:Orc}{loc:Loc}{H:AH}{Q:V→AH→Prop}{I:Iter→AH→Prop}{a b:E}{es:List E}{i:It}{t:T}{vs ws:List V}{own k l j p:Nat}{bs:List UInt8}
theorem e_comp1 (q:evIt O i loc H fun it H=>compTurns it own (fun o=>evT O t (o++loc)) (fun o=>evE O a (o++loc)) fuelFor 0 [] H fun vs H=>newList vs H Q):evE O (.comp a own i (some t)) loc H Q:=q
theorem e_comp0 (q:evIt O i loc H fun it H=>compTurns it own (fun _ H Q=>Q true H) (fun o=>evE O a (o++loc)) fuelFor 0 [] H fun vs H=>newList vs H Q):evE O (.comp a own i none) loc H Q:=q
theorem it_ref {J:Iter→Prop} (h:H[l]?=some (.list vs)) (q:J (.live l)):iterV (.ref l) H J:=.inl (optK_of h q)
theorem it_tup {J:Iter→Prop} (q:J (.vals vs)):iterV (.tup vs) H J:=.inr (.inl q)
theorem it_bytes {J:Iter→Prop} (q:J (.vals (bs.map fun c=>.int c.toNat))):iterV (.bytes bs) H J:=.inr (.inr (.inr q))
theorem lst_of {B:List V→Prop} (h:H[l]?=some (.list vs)) (q:B vs):lstK H l B:=optK_of h q
theorem optB_of {α:Type}{o:Option α}{N:Prop}{Q:α→Prop}{x:α} (h:o=some x) (q:Q x):optB o N Q:=h▸q
theorem optB_no {α:Type}{o:Option α}{N:Prop}{Q:α→Prop} (h:o=none) (q:N):optB o N Q:=h▸q
theorem mul_two {x:Nat} (q:Q (.int ((2 * x:Nat):Int)) H):binV .mul (.int 2) (.int (x:Int)) H Q:=bin_intI (if_pos (c:=mulOk 2 (x:Int)=true) (t:=some ((2:Int) * x)) (e:=none) (Bool.or_eq_true _ _▸.inl rfl)) q
theorem add_nat {x y:Nat} (q:Q (.int ((x+y:Nat):Int)) H):binV .add (.int (x:Int)) (.int (y:Int)) H Q:=add_int q
theorem new_k {vs:List V} (hl:vs.length≤lim) (q:∀ H',Kp [] H H'→H'[H.length]?=some (.list vs)→H'.length=H.length+1→Q (.ref H.length) H'):newList vs H Q:=newList_of hl (q _ .app get_new (List.length_append (as:=H)))
theorem app_k {x:V} (h:H[l]?=some (.list vs)) (hl:vs.length < lim) (q:∀ H',Kp [l] H H'→H'[l]?=some (.list (vs++[x]))→H'.length=H.length→Q .none H'):appV (.ref l) x H Q:=app_of h hl (q _ (.set (.head _)) (get_set h) List.length_set)
theorem setd_k {U:AH→Prop}{kvs:List (K × V)}{x y:V}{k:K} (h:H[l]?=some (.dict kvs)) (hk:y.key=some k) (ha:kvs.all (fun e=>e.1.sameKind k)=true) (hl:kvs.length < lim) (q:∀ H',Kp [l] H H'→H'[l]?=some (.dict (putK kvs k x))→H'.length=H.length→U H'):setI (.ref l) y x H U :=
  set_dict h hk ha hl (q _ (.set (.head _)) (get_set h) List.length_set)
theorem setf_k {U:AH→Prop}{c:Cls}{fs:List (Fd × V)}{f:Fd}{x:V} (h:H[l]?=some (.flds c fs)) (hf:f∈fieldsOf c) (hl:fs.length < 100) (q:∀ H',Kp [l] H H'→H'[l]?=some (.flds c (putF fs f x))→H'.length=H.length→U H'):setF (.inst c l) f x H U :=
  setF_of h hf hl (q _ (.set (.head _)) (get_set h) List.length_set)
variable {H':AH}{S T:List Nat}{x y:Nat}{o:AObj}
theorem Kp.at0 (kp:Kp [] H H') (h:H[l]?=some o):H'[l]?=some o:=kp.at h (List.not_mem_nil)
theorem Kp.at1 (kp:Kp [x] H H') (h:H[l]?=some o) (n:l≠x):H'[l]?=some o:=kp.at h fun m=>n (mS m)
theorem Kp.at2 (kp:Kp [x,y] H H') (h:H[l]?=some o) (n:l≠x) (n2:l≠y):H'[l]?=some o:=kp.at h fun m=>(mZ m).elim n fun m=>n2 (mS m)
theorem Kp.to (kp:Kp S H H') (h:S ⊆ T):Kp T H H':=kp.mono fun _ _ m=>h m
theorem Kp.nil (kp:Kp [] H H'):Kp T H H':=kp.to (List.nil_subset _)
theorem Kp.one (kp:Kp [x] H H') (h:x∈T):Kp T H H':=kp.to (List.cons_subset.mpr ⟨h,List.nil_subset _⟩)
theorem Kp.two (kp:Kp [x,y] H H') (h:x∈T) (h2:y∈T):Kp T H H':=kp.to (List.cons_subset.mpr ⟨h,List.cons_subset.mpr ⟨h2,List.nil_subset _⟩⟩)
theorem ne_old {H:AH}{i:Nat}{o:AObj} (h:H[i]?=some o):i≠H.length:=Nat.ne_of_lt (lt_of h)
end
section
variable {it:Iter}{tgt:V→Loc→AH→(Loc→AH→Prop)→Prop}{body:Loc→CS}{n p:Nat}{loc:Loc}{H:AH}{N:Loc→AH→Prop}{R:V→AH→Prop}
theorem for_s (q:itK it p H (N loc H) fun v=>tgt v loc H fun loc H=>body loc H (fun loc H=>forTurns it tgt body n (p+1) loc H N R) R fun loc H=>forTurns it tgt body n (p+1) loc H N R):forTurns it tgt body (n+1) p loc H N R:=q
theorem for_two {x y:V} (q:tgt x loc H fun loc H=>body loc H (fun loc H=>tgt y loc H fun loc H=>body loc H N R N) R (fun loc H=>tgt y loc H fun loc H=>body loc H N R N)):forTurns (.vals [x,y]) tgt body (n+3) 0 loc H N R:=q
theorem for_ok (vs:List V) (Inv:Nat→Loc→AH→Prop) (hit:∀ p loc H,Inv p loc H→∀ {A:Prop}{B:V→Prop},optB vs[p]? A B→itK it p H A B)
    (step:∀ p v loc H (K:Loc→AH→Prop),vs[p]?=some v→Inv p loc H→(∀ loc H,Inv (p+1) loc H→K loc H)→tgt v loc H fun loc H=>body loc H K R K) (fin:∀ loc H,Inv vs.length loc H→N loc H) :
    ∀ (n p:Nat) (loc:Loc) (H:AH),vs.length < n+p→p≤vs.length→Inv p loc H→forTurns it tgt body n p loc H N R:=by
  intro n
  induction n with
  | zero=>exact fun p _ _ h h2=>absurd h (Nat.not_lt.mpr (Nat.le_trans (Nat.le_of_eq (Nat.zero_add p)) h2))
  | succ n ih =>
    intro p loc H h h2 i
    refine for_s (hit p loc H i ?_)
    by_cases hp:p < vs.length
    · exact optB_of (List.getElem?_eq_getElem hp) (step p _ loc H _ (List.getElem?_eq_getElem hp) i fun loc H i=>ih (p+1) loc H (Nat.lt_of_lt_of_eq h ((Nat.add_assoc n 1 p).trans (congrArg (n+·) (Nat.add_comm 1 p)))) hp i)
    · have e:=Nat.le_antisymm h2 (Nat.not_lt.mp hp)
      exact optB_no (List.getElem?_eq_none (Nat.not_lt.mp hp)) (fin loc H (e▸i))
theorem it_live {i:Nat}{vs:List V}{H:AH} (h:H[i]?=some (.list vs)) (p:Nat) {A:Prop}{B:V→Prop} (q:optB vs[p]? A B):itK (.live i) p H A B:=optK_of h q
end
theorem take_succ' {α:Type}{xs:List α}{q:Nat}{x:α} (h:xs[q]?=some x):xs.take (q+1)=xs.take q++[x]:=by
  rw [List.take_succ,h];rfl
theorem comp_map {α:Type}{it:Iter}{own:Nat}{cond:List (Option V)→CM Bool}{elt:List (Option V)→CM V}{H:AH}{Q:List V→AH→Prop} (xs:List α) (enc out:α→V) (o:α→List (Option V)) (p:α→Bool)
    (hit:∀ q {A:Prop}{B:V→Prop},optB (xs.map enc)[q]? A B→itK it q H A B) (ho:∀ x∈xs,∀ B:List (Option V)→Prop,B (o x)→compOwn own (enc x) B) (hc:∀ x∈xs,∀ R:Bool→AH→Prop,R (p x) H→cond (o x) H R)
    (he:∀ x∈xs,p x=true→∀ R:V→AH→Prop,R (out x) H→elt (o x) H R) (hl:xs.length < 2000) (hq:Q ((xs.filter p).map out) H):compTurns it own cond elt fuelFor 0 [] H Q:=by
  suffices h:∀ n q (acc:List V),xs.length < n+q→q≤xs.length→acc=((xs.take q).filter p).map out→compTurns it own cond elt n q acc H Q from h 2000 0 [] hl (Nat.zero_le _) rfl
  intro n
  induction n with
  | zero=>exact fun p _ h h2=>absurd h (Nat.not_lt.mpr (Nat.le_trans (Nat.le_of_eq (Nat.zero_add p)) h2))
  | succ n ih =>
    intro q acc h h2 e
    show itK it q H (Q acc H) fun v=>compOwn own v fun o=>cond o H fun r H=>iteB r (elt o H fun x H=>acc.length < lim∧compTurns it own cond elt n (q+1) (acc++[x]) H Q) (compTurns it own cond elt n (q+1) acc H Q)
    refine hit q ?_
    by_cases hp:q < xs.length
    · have hx:=List.getElem?_eq_getElem hp
      have hm:=List.getElem_mem hp
      refine optB_of (x:=enc xs[q]) (by rw [List.getElem?_map,hx];rfl) (ho _ hm _ (hc _ hm _ ?_))
      have h':xs.length < n+(q+1):=Nat.lt_of_lt_of_eq h ((Nat.add_assoc n 1 q).trans (congrArg (n+·) (Nat.add_comm 1 q)))
      have e2:(xs.take (q+1)).filter p=(xs.take q).filter p++(if p xs[q] then [xs[q]] else []):=by
        rw [take_succ' hx,List.filter_append];congr 1;cases h:p xs[q]<;>simp [h]
      cases hpx:p xs[q] with
      | false=>exact ih (q+1) acc h' hp (by rw [e,e2,hpx];simp)
      | true =>
        refine he _ hm hpx _ ⟨?_,ih (q+1) _ h' hp (by rw [e,e2,hpx];simp)⟩
        rw [e,List.length_map]
        exact Nat.lt_of_le_of_lt (List.length_filter_le ..) (Nat.lt_of_le_of_lt (List.length_take_le' ..) (Nat.lt_trans hl (by decide)))
    · refine optB_no (List.getElem?_eq_none (by rw [List.length_map];exact Nat.not_lt.mp hp)) ?_
      rw [e,List.take_of_length_le (Nat.not_lt.mp hp)]
      exact hq
local macro_rules | `(tactic| fail) => `(tactic| with_reducible first | refine e_comp1 ?_ | refine e_comp0 ?_ | refine fn_of ?_ | refine stE ?_ | refine stEs ?_ | refine stS ?_ | refine ss_c ?_ | refine ss_n ?_ | refine stT ?_ | refine stI ?_ | refine g_tup rfl ?_ | refine stG ?_ | refine gs_c ?_ | refine gs_n ?_ | refine stK ?_ | refine stC rfl ?_ | refine add_int ?_ | refine sub_int ?_ | refine eq_bytes ?_ | refine ne_bytes ?_ | refine bytes_bytes ?_ | refine tuple_tup ?_ | refine it_tup ?_ | refine it_bytes ?_ | refine on_int ?_ | refine on_bool ?_ | refine on_ref ?_ | refine on_tup ?_ | refine on_inst ?_)
local macro_rules | `(tactic| fail) => `(tactic| first | ((with_reducible apply e_lv); (first | exact rfl | with_reducible assumption); (first | exact rfl | assumption)) | ((with_reducible apply e_lg); (with_reducible assumption); exact rfl; (first | exact rfl | assumption)))
local macro_rules | `(tactic| fail) => `(tactic| first | ((with_reducible refine g_v ?_ ?_); (first | exact rfl | assumption)) | (with_reducible refine g_vg (by assumption) rfl fun _ _ => ?_))
local macro_rules | `(tactic| fail) => `(tactic| first | ((with_reducible show getF _ _ _ _); refine getF_of (by with_reducible assumption) (by exact rfl) ?_) | ((with_reducible refine And.intro ?_ ?_); exact rfl) | ((with_reducible show rdMeth _ _ _ _); refine rdMeth_of (by with_reducible assumption) (by exact rfl) ?_) | with_reducible first | refine rdList_of (by assumption) ?_ | refine lst_of (by assumption) ?_ | refine it_ref (by assumption) ?_)
local macro_rules | `(tactic| left) => `(tactic| repeat fail)
noncomputable abbrev siftT:T:=.cmp .gt (.l 3) (.c (.int 0))
noncomputable abbrev siftB:List S:=[.asg (.v 4) (.bin .fdiv (.bin .sub (.l 3) (.c (.int 1))) (.c (.int 2))),
      .ite (.cmp .le (.upto (.sub (.attr (.l 0) .rows) (.l 4)) (.c (.int 2))) (.upto (.sub (.attr (.l 0) .rows) (.l 3)) (.c (.int 2)))) [.ret (.c .none)] [],
      .asg (.tup [(.sb (.attr (.l 0) .rows) (.l 4)),(.sb (.attr (.l 0) .rows) (.l 3))]) (.tup [(.sub (.attr (.l 0) .rows) (.l 3)),(.sub (.attr (.l 0) .rows) (.l 4))]),
      .asg (.v 3) (.l 4)]
theorem sift_ok {O:Orc}{i L c:Nat}{v1 v2:V}{R':List Qr}{H₀:AH}{N:Loc→AH→Prop}{R:V→AH→Prop}
    (hN:∀ loc H',Kp [i,L] H₀ H'→H'[i]?=some (qf L c)→H'[L]?=some (lv R')→N loc H') (hR:∀ H',Kp [i,L] H₀ H'→H'[i]?=some (qf L c)→H'[L]?=some (lv R')→R .none H') (hne:L≠i) :
    ∀ (k n fuel:Nat) (rows:List Qr) (t:Option V) (H:AH),n < k→n < fuel→n < rows.length→rows.length < 30→notCelO t=true→Kp [i,L] H₀ H→H[i]?=some (qf L c)→H[L]?=some (lv rows)→siftUp fuel rows n=R' →
    whileTurns (evT O siftT) (evSs O siftB) k [some (.inst .RankQueue i),some v1,some v2,some (.int (n:Int)),t] H N R:=by
  intro k
  induction k with
  | zero=>exact fun n fuel rows t H hk=>absurd hk (Nat.not_lt_zero _)
  | succ k ih =>
  intro n fuel rows t H hk hf hn hl ht kp h hL hs
  refine w_s ?_
  left
  cases fuel with
  | zero=>exact absurd hf (Nat.not_lt_zero _)
  | succ fuel =>
  cases n with
  | zero=>exact hN _ _ kp h (hs▸hL)
  | succ m =>
    have hlim:(rows.map rv).length≤lim:=Nat.le_trans (Nat.le_of_eq (List.length_map ..)) (Nat.le_trans (Nat.le_of_lt hl) (by decide))
    have hm2:m / 2 < rows.length:=Nat.lt_of_le_of_lt (Nat.div_le_self ..) (Nat.lt_of_succ_lt hn)
    have e1:=map_rv_get hm2
    have e2:=map_rv_get hn
    refine iteB_t (decide_eq_true (Int.ofNat_lt.mpr (Nat.succ_pos m))) ?_
    left
    refine fdiv_two (n:=m) (Int.add_sub_cancel (m:Int) 1) ?_
    refine g_v ht ?_
    left
    refine sub_list hL hlim e1 rfl ?_
    left
    refine upto2 ?_
    left
    refine sub_list hL hlim e2 rfl ?_
    left
    refine upto2 ?_
    refine le_rv ?_
    unfold siftUp at hs
    cases hq:qle (rows.getD (m / 2) q0) (rows.getD (m+1) q0) with
    | true =>
      refine iteB_t rfl ?_
      left
      exact hR _ kp h (((if_pos hq).symm.trans hs)▸hL)
    | false =>
      refine iteB_f rfl ?_
      left
      refine sub_list hL hlim e2 rfl ?_
      left
      refine sub_list hL hlim e1 rfl ?_
      left
      refine set_list hL hlim (Nat.lt_of_lt_of_eq hm2 (List.length_map ..).symm) rfl ?_
      have h2:=get_ne (o':=AObj.list ((rows.map rv).set (m / 2) (rv (rows.getD (m+1) q0)))) h hne
      left
      refine set_list (get_set hL) (Nat.le_trans (Nat.le_of_eq List.length_set) hlim) (Nat.lt_of_lt_of_eq hn ((List.length_map ..).symm.trans List.length_set.symm)) rfl ?_
      left
      have hm:L∈[i,L]:=.tail _ (.head _)
      refine ih (m / 2) fuel (swapQ rows (m / 2) (m+1)) _ _ (Nat.lt_of_le_of_lt (Nat.div_le_self ..) (Nat.lt_of_succ_lt_succ hk)) (Nat.lt_of_le_of_lt (Nat.div_le_self ..) (Nat.lt_of_succ_lt_succ hf)) ((swapQ_len ..).symm▸hm2) ((swapQ_len ..).symm▸hl) rfl ((kp.then (.set hm)).then (.set hm)) (get_ne (get_ne h hne) hne) ?_ ((if_neg (fun z=>Bool.false_ne_true (hq.symm.trans z))).symm.trans hs)
      exact (get_set (get_set hL)).trans (congrArg (fun z=>some (AObj.list z)) (swapQ_map ..))
theorem put_ok {d i L:Nat}{rows:List Qr}{x:Qr}{H:AH}{Q:V→AH→Prop} (h:H[i]?=some (qf L x.2.1)) (hL:H[L]?=some (lv rows)) (hl:rows.length < 19)
    (hq:∀ H',Kp [i,L] H H'→H'[i]?=some (qf L (x.2.1+1))→H'[L]?=some (lv (putQ rows x))→Q .none H'):callN (d+1) .put [.inst .RankQueue i,.int x.1,idv x.2.2] H Q:=by
  have hne:L≠i:=ne_of hL h nofun
  have hlim:(rows.map rv).length < lim:=Nat.lt_of_le_of_lt (Nat.le_of_eq (List.length_map ..)) (Nat.lt_trans hl (by decide))
  refine call_of rfl rfl rfl rfl ?_
  left
  refine app_of hL hlim ?_
  have h2:=get_ne (o':=AObj.list (rows.map rv++[rv x])) h hne
  left
  refine getF_of h2 rfl ?_
  left
  refine optK_of rfl ?_
  refine setF_of (get_ne h hne) (.tail _ (.head _)) (show 2 < 100 by decide) ?_
  have e1:(rows.map rv++[rv x])=(rows++[x]).map rv:=(List.map_append (f:=rv) (l₁:=rows) (l₂:=[x])).symm
  have hL2:((H.set L (.list (rows.map rv++[rv x]))).set i (qf L (x.2.1+1)))[L]?=some (lv (rows++[x])):=(get_ne (get_set hL) hne.symm).trans (congrArg (fun z=>some (AObj.list z)) e1)
  have hi2:((H.set L (.list (rows.map rv++[rv x]))).set i (qf L (x.2.1+1)))[i]?=some (qf L (x.2.1+1)):=get_set (get_ne h hne)
  left
  refine getF_of hi2 rfl ?_
  have hx:(rows++[x]).length=rows.length+1:=List.length_append (as:=rows) (bs:=[x])
  have hn:((rows++[x]).map rv).length=rows.length+1:=(List.length_map ..).trans hx
  refine len_list hL2 (Nat.le_trans (Nat.le_of_eq hn) (Nat.le_trans hl (by decide))) ?_
  left
  have en:(((rows++[x]).map rv).length:Int) - 1=(rows.length:Int):=by rw [hn];exact Int.add_sub_cancel (rows.length:Int) 1
  rw [en]
  have kp:Kp [i,L] H ((H.set L (.list (rows.map rv++[rv x]))).set i (qf L (x.2.1+1))):=Kp.then (.set (.tail _ (.head _))) (.set (.head _))
  exact sift_ok (L:=L) (c:=x.2.1+1) (R':=putQ rows x) (fun _ H' kp' a b=>hq H' (kp.then kp') a b) (fun H' kp' a b=>hq H' (kp.then kp') a b) hne fuelWhile rows.length 20 (rows++[x]) none _
    (Nat.lt_trans hl (by decide)) (Nat.lt_succ_of_lt hl) (Nat.lt_of_lt_of_eq (Nat.lt_succ_self _) hx.symm) (Nat.lt_of_le_of_lt (Nat.le_of_eq hx) (Nat.lt_trans (Nat.succ_lt_succ hl) (by decide))) rfl .refl hi2 hL2 rfl
theorem many_ok {d i L c:Nat}{rows:List V}{H:AH}{Q:V→AH→Prop} (h:H[i]?=some (qf L c)) (hL:H[L]?=some (.list rows)) (hl:rows.length≤lim) (hq:Q (.int rows.length) H):callN (d+1) .many [.inst .RankQueue i] H Q:=by
  refine call_of rfl rfl rfl rfl ?_
  left
  exact len_list hL hl hq
noncomputable abbrev sinkI:List S:=[.ite (.and (.cmp .lt (.l 4) (.l 2)) (.cmp .lt (.upto (.sub (.attr (.l 0) .rows) (.l 4)) (.c (.int 2))) (.upto (.sub (.attr (.l 0) .rows) (.l 3)) (.c (.int 2))))) [.asg (.v 3) (.l 4)] []]
theorem rows_lim {rows:List Qr} (h:rows.length < 30):(rows.map rv).length≤lim:=Nat.le_trans (Nat.le_of_eq (List.length_map ..)) (Nat.le_trans (Nat.le_of_lt h) (by decide))
theorem sink_turn {O:Orc}{i L c a:Nat}{rows:List Qr}{H:AH}{N:Loc→AH→Prop}{R:V→AH→Prop}{Ct:Loc→AH→Prop} (h:H[i]?=some (qf L c)) (hL:H[L]?=some (lv rows)) (hlen:rows.length < 30)
    {least below:Nat} (hl:least < rows.length) (hN:N [some (.inst .RankQueue i),some (.int (a:Int)),some (.int (rows.length:Int)),some (.int (least1 rows least below:Int)),some (.int (below:Int))] H) :
    evSs O sinkI [some (.inst .RankQueue i),some (.int (a:Int)),some (.int (rows.length:Int)),some (.int (least:Int)),some (.int (below:Int))] H N R Ct:=by
  have hlim:=rows_lim hlen
  unfold least1 at hN
  left
  refine iteB_d (fun hb=>?_) fun hb=>?_
  · have hb:=Int.ofNat_lt.mp hb
    have hbl:Nat.blt below rows.length=true:=Nat.ble_eq_true_of_le hb
    rw [hbl,Bool.true_and] at hN
    left
    refine sub_list hL hlim (map_rv_get hb) rfl ?_
    left
    refine upto2 ?_
    left
    refine sub_list hL hlim (map_rv_get hl) rfl ?_
    left
    refine upto2 (lt_rv ?_)
    cases hq:qlt (rows.getD below q0) (rows.getD least q0) with
    | true =>
      rw [hq] at hN
      refine iteB_t rfl ?_
      left
      exact hN
    | false =>
      rw [hq] at hN
      refine iteB_f rfl ?_
      left
      exact hN
  · have hbl:Nat.blt below rows.length=false:=Bool.eq_false_iff.mpr fun q=>hb (Int.ofNat_lt.mpr (Nat.le_of_ble_eq_true q))
    rw [hbl,Bool.false_and] at hN
    refine iteB_f rfl ?_
    left
    exact hN
theorem least1_lt {rows:List Qr}{least below:Nat} (h:least < rows.length):least1 rows least below < rows.length:=by
  unfold least1
  split
  · rename_i q
    exact Nat.le_of_ble_eq_true (Bool.and_eq_true_iff.mp q).1
  · exact h
theorem least1_ge {rows:List Qr}{least below a:Nat} (h:a≤least) (hb:a < below):a≤least1 rows least below:=by
  unfold least1
  split
  · exact Nat.le_of_lt hb
  · exact h
noncomputable abbrev sinkB:List S:=[.asg (.v 3) (.l 1),
      .for (.v 4) (.ex (.tup [(.bin .add (.bin .mul (.c (.int 2)) (.l 1)) (.c (.int 1))),(.bin .add (.bin .mul (.c (.int 2)) (.l 1)) (.c (.int 2)))])) sinkI,
      .ite (.cmp .eq (.l 3) (.l 1)) [.ret (.c .none)] [],
      .asg (.tup [(.sb (.attr (.l 0) .rows) (.l 3)),(.sb (.attr (.l 0) .rows) (.l 1))]) (.tup [(.sub (.attr (.l 0) .rows) (.l 1)),(.sub (.attr (.l 0) .rows) (.l 3))]),
      .asg (.v 1) (.l 3)]
theorem sink_loop {O:Orc}{i L c n:Nat}{R':List Qr}{H₀:AH}{N:Loc→AH→Prop}{R:V→AH→Prop}
    (hR:∀ H',Kp [i,L] H₀ H'→H'[i]?=some (qf L c)→H'[L]?=some (lv R')→R .none H') (hne:L≠i) (hn:n < 20) :
    ∀ (k a fuel:Nat) (rows:List Qr) (t3 t4:Option V) (H:AH),n < k+a→n < fuel+a→a < rows.length→rows.length=n→notCelO t3=true→notCelO t4=true→Kp [i,L] H₀ H→H[i]?=some (qf L c)→H[L]?=some (lv rows)→sinkQ fuel rows a=R' →
    whileTurns (evT O (.e (.c (.bool true)))) (evSs O sinkB) k [some (.inst .RankQueue i),some (.int (a:Int)),some (.int (n:Int)),t3,t4] H N R:=by
  intro k
  induction k with
  | zero=>exact fun a _ rows _ _ _ h _ h2 h3=>absurd h (Nat.lt_asymm (Nat.lt_of_lt_of_eq (Nat.lt_of_le_of_lt (Nat.le_of_eq (Nat.zero_add a)) h2) h3))
  | succ k ih =>
  intro a fuel rows t3 t4 H hk hf ha hlen n3 n4 kp h hL hs
  cases fuel with
  | zero=>exact absurd hf (Nat.lt_asymm (Nat.lt_of_lt_of_eq (Nat.lt_of_le_of_lt (Nat.le_of_eq (Nat.zero_add a)) ha) hlen))
  | succ fuel =>
  have h30:rows.length < 30:=Nat.lt_of_le_of_lt (Nat.le_of_eq hlen) (Nat.lt_trans hn (by decide))
  have hlim:=rows_lim h30
  have hl1:=least1_lt (below:=2 * a+1) ha
  have hl2:=least1_lt (below:=2 * a+2) hl1
  have h2a:a≤2 * a:=Nat.le_mul_of_pos_left a (by decide)
  have hg:=least1_ge (rows:=rows) (below:=2 * a+2) (least1_ge (rows:=rows) (below:=2 * a+1) (Nat.le_refl a) (Nat.lt_succ_of_le h2a)) (Nat.lt_succ_of_le (Nat.le_succ_of_le h2a))
  unfold sinkQ at hs
  dsimp only at hs
  refine w_s ?_
  left
  refine iteB_t rfl ?_
  left
  refine mul_two ?_
  left
  refine mul_two ?_
  left
  refine for_two (n:=1997) ?_
  subst hlen
  refine g_v n4 ?_
  refine sink_turn (least:=a) (below:=2 * a+1) h hL h30 ha ?_
  refine g_v rfl ?_
  refine sink_turn (below:=2 * a+2) h hL h30 hl1 ?_
  have e1:=map_rv_get hl2
  have e2:=map_rv_get ha
  left
  cases hb:least1 rows (least1 rows a (2 * a+1)) (2 * a+2) == a with
  | true =>
    rw [hb] at hs
    have hi:(((least1 rows (least1 rows a (2 * a+1)) (2 * a+2):Nat):Int) == (a:Int))=true:=beq_iff_eq.mpr (congrArg Int.ofNat (eq_of_beq hb))
    refine iteB_t hi ?_
    left
    exact hR _ kp h (hs▸hL)
  | false =>
    rw [hb] at hs
    have hla:least1 rows (least1 rows a (2 * a+1)) (2 * a+2)≠a:=fun q=>Bool.false_ne_true (hb.symm.trans (beq_iff_eq.mpr q))
    have hi:(((least1 rows (least1 rows a (2 * a+1)) (2 * a+2):Nat):Int) == (a:Int))=false:=beq_eq_false_iff_ne.mpr fun q=>hla (Int.ofNat.inj q)
    refine iteB_f hi ?_
    left
    refine sub_list hL hlim e2 rfl ?_
    left
    refine sub_list hL hlim e1 rfl ?_
    left
    refine set_list hL hlim (Nat.lt_of_lt_of_eq hl2 (List.length_map ..).symm) rfl ?_
    have h2:=get_ne (o':=AObj.list ((rows.map rv).set (least1 rows (least1 rows a (2 * a+1)) (2 * a+2)) (rv (rows.getD a q0)))) h hne
    left
    refine set_list (get_set hL) (Nat.le_trans (Nat.le_of_eq List.length_set) hlim) (Nat.lt_of_lt_of_eq ha ((List.length_map ..).symm.trans List.length_set.symm)) rfl ?_
    left
    have hm:L∈[i,L]:=.tail _ (.head _)
    have hlt:a < least1 rows (least1 rows a (2 * a+1)) (2 * a+2):=Nat.lt_of_le_of_ne hg (Ne.symm hla)
    have up:∀ m,rows.length < m+1+a→rows.length < m+least1 rows (least1 rows a (2 * a+1)) (2 * a+2):=fun m z=>Nat.lt_of_lt_of_le z (Nat.le_trans (Nat.le_of_eq (Nat.add_assoc m 1 a)) (Nat.add_le_add_left (Nat.le_trans (Nat.le_of_eq (Nat.add_comm 1 a)) hlt) m))
    refine ih _ fuel (swapQ rows _ a) _ _ _ (up k hk) (up fuel hf) ((swapQ_len ..).symm▸hl2) (swapQ_len ..) rfl rfl ((kp.then (.set hm)).then (.set hm)) (get_ne h2 hne) ?_ hs
    exact (get_set (get_set hL)).trans (congrArg (fun z=>some (AObj.list z)) (swapQ_map ..))
theorem sink_ok {d i L c:Nat}{rows:List Qr}{H:AH}{Q:V→AH→Prop} (h:H[i]?=some (qf L c)) (hL:H[L]?=some (lv rows)) (h0:0 < rows.length) (hl:rows.length < 20)
    (hq:∀ H',Kp [i,L] H H'→H'[i]?=some (qf L c)→H'[L]?=some (lv (sinkQ 20 rows 0))→Q .none H'):callN (d+1) .sink [.inst .RankQueue i] H Q:=by
  refine call_of rfl rfl rfl rfl ?_
  left
  refine len_list hL (rows_lim (Nat.lt_trans hl (by decide))) ?_
  left
  rw [List.length_map]
  exact sink_loop hq (ne_of hL h nofun) hl fuelWhile 0 20 rows none none H (Nat.lt_trans hl (by decide)) hl h0 rfl rfl rfl .refl h hL rfl
theorem drop_map (rows:List Qr):(rows.map rv).dropLast=rows.dropLast.map rv:=(List.map_dropLast ..).symm
theorem take_ok {d i L c:Nat}{rows:List Qr}{H:AH}{Q:V→AH→Prop} (h:H[i]?=some (qf L c)) (hL:H[L]?=some (lv rows)) (h0:rows≠[]) (hl:rows.length < 20)
    (hq:∀ H',Kp [i,L] H H'→H'[i]?=some (qf L c)→H'[L]?=some (lv (takeQ rows).2)→Q (idv (takeQ rows).1) H'):callN (d+2) .take [.inst .RankQueue i] H Q:=by
  have hne:L≠i:=ne_of hL h nofun
  have hlim:=rows_lim (Nat.lt_trans hl (show 20 < 30 by decide))
  have hpos:0 < rows.length:=List.length_pos_iff.mpr h0
  have hlast:(rows.map rv).getLast?=some (rv (rows.getD (rows.length - 1) q0)):=by
    rw [List.getLast?_eq_getElem?,List.length_map]
    exact map_rv_get (Nat.sub_lt hpos (by decide))
  refine call_of rfl rfl rfl rfl ?_
  left
  refine sub_list hL hlim (map_rv_get hpos) rfl ?_
  left
  refine pop_of hL hlim hlast ?_
  have hm:L∈[i,L]:=.tail _ (.head _)
  have kp:Kp [i,L] H (H.set L (.list (rows.map rv).dropLast)):=.set hm
  have h2:=get_ne (o':=AObj.list (rows.map rv).dropLast) h hne
  have hL2:=get_set (o':=AObj.list (rows.map rv).dropLast) hL
  rw [drop_map] at kp h2 hL2 ⊢
  generalize H.set L (.list (rows.dropLast.map rv))=H2 at *
  left
  refine new_k (lim_of rfl) fun H3 k3 e3 _=>?_
  have hL3:=k3.at0 hL2
  have h3:=k3.at0 h2
  have kp3:=kp.then k3.nil
  unfold takeQ at hq
  have hdl:rows.dropLast.length=rows.length - 1:=List.length_dropLast
  revert hL3 hq hdl
  cases rows.dropLast with
  | nil =>
    intro hq hL3 _
    refine ne_list hL3 e3 rfl (iteB_f rfl ?_)
    left
    exact sub_tup (lim_of rfl) rfl (hq _ kp3 h3 hL3)
  | cons a r =>
    intro hq hL3 hdl
    have hr:(a :: r).length < 20:=Nat.lt_of_le_of_lt (Nat.le_trans (Nat.le_of_eq hdl) (Nat.sub_le ..)) hl
    refine ne_list hL3 e3 rfl (iteB_t rfl ?_)
    left
    refine set_list (a:=0) hL3 (rows_lim (Nat.lt_trans hr (by decide))) (Nat.succ_pos _) rfl ?_
    have h4:=get_ne (o':=AObj.list (((a :: r).map rv).set 0 (rv (rows.getD (rows.length - 1) q0)))) h3 hne
    left
    refine sink_ok (rows:=rows.getD (rows.length - 1) q0 :: r) h4 (get_set hL3) (Nat.succ_pos _) hr fun H' k5 a5 b5=>?_
    left
    exact sub_tup (lim_of rfl) rfl (hq _ ((kp3.then (.set hm)).then k5) a5 b5)
noncomputable def dB (f:List (Nat × V)):List (K × V):=f.map fun p=>(K.b (idb p.1),p.2)
noncomputable def putA {α:Type} (f:List (Nat × α)) (k:Nat) (v:α):List (Nat × α):=match f with
  | []=>[(k,v)]
  | (a,w) :: r=>if a=k then (a,v) :: r else (a,w) :: putA r k v
theorem dB_all (f:List (Nat × V)) (b:List UInt8):(dB f).all (fun e=>e.1.sameKind (.b b))=true:=by
  unfold dB;rw [List.all_map,List.all_eq_true];intro p _;rfl
theorem kb_eq {i j:Nat} (hi:i < 250) (hj:j < 250):(K.b (idb i)=K.b (idb j))↔i=j:=⟨fun q=>idb_inj hi hj (K.b.inj q),fun q=>by rw [q]⟩
theorem dB_lookup:∀ {f:List (Nat × V)}{k:Nat},(∀ p∈f,p.1 < 250)→k < 250→(dB f).lookup (.b (idb k))=f.lookup k
  | [],_,_,_=>rfl
  | (a,v) :: r,k,hf,hk=>by
    have ha:=hf (a,v) (List.mem_cons_self ..)
    show (((K.b (idb a),v) :: dB r).lookup (.b (idb k)))=_
    rw [List.lookup_cons,List.lookup_cons]
    by_cases h:k=a
    · subst h;simp
    · rw [show (K.b (idb k) == K.b (idb a))=false from beq_eq_false_iff_ne.mpr fun q=>h ((kb_eq hk ha).mp q),show (k == a)=false from beq_eq_false_iff_ne.mpr h]
      exact dB_lookup (fun p m=>hf p (List.mem_cons_of_mem _ m)) hk
theorem dB_put:∀ {f:List (Nat × V)}{k:Nat}{v:V},(∀ p∈f,p.1 < 250)→k < 250→putK (dB f) (.b (idb k)) v=dB (putA f k v)
  | [],_,_,_,_=>rfl
  | (a,w) :: r,k,v,hf,hk=>by
    have ha:=hf (a,w) (List.mem_cons_self ..)
    show putK ((K.b (idb a),w) :: dB r) (.b (idb k)) v=_
    unfold putK putA
    by_cases h:a=k
    · rw [if_pos h,if_pos (by rw [h])];rfl
    · rw [if_neg h,if_neg fun q=>h ((kb_eq ha hk).mp q),dB_put (fun p m=>hf p (List.mem_cons_of_mem _ m)) hk];rfl
theorem putA_mem {α:Type}:∀ {f:List (Nat × α)}{k:Nat}{v:α}{p:Nat × α},p∈putA f k v→p∈f∨p=(k,v)
  | [],k,v,p,h=>by simp [putA] at h;exact .inr h
  | (a,w) :: r,k,v,p,h=>by
    unfold putA at h
    split at h
    · rename_i q
      rcases mZ h with h | h
      · right;rw [h,q]
      · exact .inl (List.mem_cons_of_mem _ h)
    · rcases mZ h with h | h
      · refine .inl ?_;rw [h];exact List.mem_cons_self ..
      · rcases putA_mem h with h | h
        · exact .inl (List.mem_cons_of_mem _ h)
        · exact .inr h
theorem putA_keys {α:Type}:∀ {f:List (Nat × α)}{k:Nat}{v:α},f.lookup k=none→putA f k v=f++[(k,v)]
  | [],_,_,_=>rfl
  | (a,w) :: r,k,v,h=>by
    rw [List.lookup_cons] at h
    by_cases q:k=a
    · subst q;simp at h
    · rw [show (k == a)=false from beq_eq_false_iff_ne.mpr q] at h
      unfold putA
      rw [if_neg (Ne.symm q),putA_keys h];rfl
theorem lookup_none {α:Type}:∀ {f:List (Nat × α)}{k:Nat},f.lookup k=none→k∉f.map (·.1)
  | [],_,_=>by simp
  | (a,w) :: r,k,h=>by
    rw [List.lookup_cons] at h
    by_cases q:k=a
    · subst q;simp at h
    · rw [show (k == a)=false from beq_eq_false_iff_ne.mpr q] at h
      rw [List.map_cons,List.mem_cons]
      rintro (z | z)
      · exact q z
      · exact lookup_none h z
theorem lookup_mem' {α:Type}:∀ {f:List (Nat × α)}{k:Nat}{v:α},f.lookup k=some v→(k,v)∈f
  | (a,w) :: r,k,v,h=>by
    rw [List.lookup_cons] at h
    by_cases q:k=a
    · subst q;simp at h;subst h;exact List.mem_cons_self ..
    · rw [show (k == a)=false from beq_eq_false_iff_ne.mpr q] at h
      exact List.mem_cons_of_mem _ (lookup_mem' h)
theorem nodup_len:∀ (n:Nat) (l:List Nat),l.Nodup→(∀ a∈l,a < n)→l.length≤n
  | 0,l,_,h=>by
    cases l with
    | nil=>simp
    | cons a r=>exact absurd (h a (List.mem_cons_self ..)) (Nat.not_lt_zero _)
  | n+1,l,nd,h=>by
    have h1:=nodup_len n (l.filter (· != n)) (nd.filter _) fun a m=>by
      obtain ⟨m1,m2⟩:=List.mem_filter.mp m
      have:=h a m1
      have:a≠n:=by simpa using m2
      omega
    have h2:∀ (l:List Nat),l.Nodup→l.length≤(l.filter (· != n)).length+1:=by
      intro l
      induction l with
      | nil=>simp
      | cons a r ih =>
        intro nd
        rw [List.nodup_cons] at nd
        by_cases q:a=n
        · subst q
          have:r.filter (· != a)=r:=by
            rw [List.filter_eq_self]
            intro b hb
            have:b≠a:=fun z=>nd.1 (z▸hb)
            simpa using this
          simp [this]
        · have:=ih nd.2
          rw [List.filter_cons_of_pos (by simpa using q)]
          simp;omega
    have:=h2 l nd
    omega
noncomputable def flV (f:Fl):List (Nat × V):=f.map fun p=>(p.1,V.int (p.2:Int))
theorem flV_lookup (f:Fl) (k:Nat):(flV f).lookup k=(look f k).map fun (v:Nat)=>V.int (v:Int):=by
  induction f with
  | nil=>rfl
  | cons a r ih =>
    obtain ⟨x,y⟩:=a
    show (((x,V.int (y:Int)) :: flV r).lookup k)=_
    rw [List.lookup_cons]
    unfold look
    by_cases h:x=k
    · subst h;simp
    · rw [show (k == x)=false from beq_eq_false_iff_ne.mpr (Ne.symm h),show (x == k)=false from beq_eq_false_iff_ne.mpr h]
      exact ih
theorem flV_put (f:Fl) (k v:Nat):putA (flV f) k (.int (v:Int))=flV (putN f k v):=by
  induction f with
  | nil=>rfl
  | cons a r ih =>
    obtain ⟨x,y⟩:=a
    show putA ((x,V.int (y:Int)) :: flV r) k _=_
    unfold putA putN
    by_cases h:x=k
    · subst h;simp [flV]
    · rw [if_neg h,if_neg (by simpa using h),ih];rfl
theorem putN_keys:∀ (f:Fl) (k v:Nat) (n:Nat),(∀ p∈f,p.1 < n)→k < n→∀ p∈putN f k v,p.1 < n
  | [],k,v,n,_,hk,p,h=>by simp [putN] at h;rw [h];exact hk
  | (a,w) :: r,k,v,n,hf,hk,p,h=>by
    unfold putN at h
    split at h
    · rcases mZ h with h | h
      · rw [h];exact hf (a,w) (List.mem_cons_self ..)
      · exact hf p (List.mem_cons_of_mem _ h)
    · rcases mZ h with h | h
      · rw [h];exact hf (a,w) (List.mem_cons_self ..)
      · exact putN_keys r k v n (fun q m=>hf q (List.mem_cons_of_mem _ m)) hk p h
theorem look_none:∀ {f:Fl}{k:Nat},look f k=none→k∉f.map (·.1)
  | [],_,_=>by simp
  | (a,w) :: r,k,h=>by
    unfold look at h
    split at h
    · cases h
    · rename_i q
      rw [List.map_cons,List.mem_cons]
      rintro (z | z)
      · exact q (by simp [z])
      · exact look_none h z
theorem putN_none:∀ {f:Fl}{k v:Nat},look f k=none→putN f k v=f++[(k,v)]
  | [],_,_,_=>rfl
  | (a,w) :: r,k,v,h=>by
    unfold look at h
    split at h
    · cases h
    · rename_i q
      unfold putN
      rw [if_neg q,putN_none h];rfl
theorem putN_some:∀ {f:Fl}{k v w:Nat},look f k=some w→(putN f k v).map (·.1)=f.map (·.1)
  | (a,x) :: r,k,v,w,h=>by
    unfold look at h
    unfold putN
    split at h
    · rename_i q;rw [if_pos q];rfl
    · rename_i q;rw [if_neg q,List.map_cons,List.map_cons,putN_some h]
theorem putN_twice:∀ {f:Fl}{k v w:Nat},putN (putN f k v) k w=putN f k w
  | [],k,v,w=>by simp [putN]
  | (a,x) :: r,k,v,w=>by
    have e:∀ (x v:Nat),putN ((a,x) :: r) k v=if (a == k)=true then (a,v) :: r else (a,x) :: putN r k v:=fun _ _=>rfl
    rw [e x v,e x w]
    by_cases q:(a == k)=true
    · rw [if_pos q,if_pos q,e v w,if_pos q]
    · rw [if_neg q,if_neg q]
      have e':putN ((a,x) :: putN r k v) k w=if (a == k)=true then (a,w) :: putN r k v else (a,x) :: putN (putN r k v) k w:=rfl
      rw [e',if_neg q,putN_twice]
theorem look_put:∀ {f:Fl}{k v:Nat},look (putN f k v) k=some v
  | [],k,v=>by simp [putN,look]
  | (a,x) :: r,k,v=>by
    unfold putN
    by_cases q:(a == k)=true
    · rw [if_pos q];unfold look;rw [if_pos q]
    · rw [if_neg q];unfold look;rw [if_neg q,look_put]
theorem flV_dB {f:Fl}{k n:Nat} (hf:∀ p∈f,p.1 < n) (hn:n≤8) (hk:k < n):(dB (flV f)).lookup (.b (idb k))=(look f k).map fun (v:Nat)=>V.int (v:Int):=by
  rw [dB_lookup _ (by omega),flV_lookup]
  intro p m
  obtain ⟨q,hq,rfl⟩:=List.mem_map.mp m
  have:=hf q hq
  show q.1 < 250
  omega
theorem flV_dput {f:Fl}{k n v:Nat} (hf:∀ p∈f,p.1 < n) (hn:n≤8) (hk:k < n):putK (dB (flV f)) (.b (idb k)) (.int (v:Int))=dB (flV (putN f k v)):=by
  rw [dB_put _ (by omega),flV_put]
  intro p m
  obtain ⟨q,hq,rfl⟩:=List.mem_map.mp m
  have:=hf q hq
  show q.1 < 250
  omega
theorem look_mem:∀ {f:Fl}{k v:Nat},look f k=some v→(k,v)∈f
  | (a,w) :: r,k,v,h=>by
    unfold look at h
    split at h
    · rename_i q
      rw [← eq_of_beq q,← Option.some.inj h]
      exact List.mem_cons_self ..
    · exact List.mem_cons_of_mem _ (look_mem h)
theorem look_put_ne:∀ {f:Fl}{k j v:Nat},j≠k→look (putN f k v) j=look f j
  | [],k,j,v,n=>by simp [putN,look,Ne.symm n]
  | (a,x) :: r,k,j,v,n=>by
    unfold putN
    by_cases q:(a == k)=true
    · rw [if_pos q]
      have e:(a == j)=false:=beq_eq_false_iff_ne.mpr fun z=>n (z.symm.trans (eq_of_beq q))
      have z:∀ y,look ((a,y) :: r) j=if (a == j)=true then some y else look r j:=fun _=>rfl
      rw [z,z,e];rfl
    · rw [if_neg q];unfold look;rw [look_put_ne n]
theorem look_put_mono {f:Fl}{k j v:Nat} (h:(look f j).isSome=true):(look (putN f k v) j).isSome=true:=by
  by_cases q:j=k
  · rw [q,look_put];rfl
  · rw [look_put_ne q];exact h
structure CR where
  (ci pi pl:Nat)
  (au tv ex ms nm em zn:V)
structure ComIs (H:AH) (g0:Gr) (t:Nat→Int) (k:Nat) (c:CR):Prop where
  h2:H[c.ci]?=some (.flds .Commit [(.tree,c.tv),(.parents,.ref c.pl),(.author,c.au),(.committer,.inst .Person c.pi),(.extra,c.ex),(.message,c.ms)])
  h3:H[c.pl]?=some (.list ((par g0 k).map idv))
  h4:H[c.pi]?=some (.flds .Person [(.name,c.nm),(.email,c.em),(.when,.int (t k)),(.zone,c.zn)])
  h5:notCel c.tv=true
noncomputable def ComAt (H:AH) (P:Nat→Prop) (ks:List (K × V)) (g0:Gr) (t:Nat→Int) (k:Nat):Prop:=∃ c:CR,ks.lookup (.b (idb k))=some (.tup [.bytes [99,111,109,109,105,116],.inst .Commit c.ci])∧ComIs H g0 t k c∧P c.ci∧P c.pl∧P c.pi
structure StI (H:AH) (P:Nat→Prop) (st kp:Nat) (g0:Gr) (t:Nat→Int):Prop where
  fl:∃ hs,H[st]?=some (.flds .MemoryStore [(.hasher,hs),(.kept,.ref kp)])
  kept:∃ ks,H[kp]?=some (.dict ks)∧(ks.all fun e=>e.1.sameKind (.b []))=true∧∀ k,k < g0.length→ComAt H P ks g0 t k
  pst:P st
  pkp:P kp
noncomputable def WcAt (H:AH) (P:Nat→Prop) (g:Gr) (t:Nat→Int) (k:Nat) (v:V):Prop:=∃ wi pl tv,v = .inst .WalkedCommit wi∧H[wi]?=some (.flds .WalkedCommit [(.parents,.ref pl),(.tree,tv),(.date,.int (t k))]) ∧
  H[pl]?=some (.list ((par g k).map idv))∧P wi∧P pl
structure Wk where
  w:Nat
  st:Nat
  kp:Nat
  sh:Nat
  kn:Nat
  lv:Nat
  g0:Gr
  g:Gr
  bd:List Nat
  t:Nat→Int
structure WI (H:AH) (P:Nat→Prop) (W:Wk):Prop where
  sto:StI H P W.st W.kp W.g0 W.t
  len:W.g.length=W.g0.length
  n:W.g0.length≤8
  cut:∀ k,k < W.g0.length→par W.g k=if W.bd.contains k then [] else par W.g0 k
  wf:∀ k,k < W.g0.length→∀ j∈par W.g0 k,j < k
  deg:∀ k,k < W.g0.length→(par W.g0 k).length≤3
  fl:H[W.w]?=some (.flds .Walk [(.store,.inst .MemoryStore W.st),(.shallow,.ref W.sh),(.known,.ref W.kn),(.levels,.ref W.lv)])
  shl:∃ sks,H[W.sh]?=some (.dict sks)∧(sks.all fun e=>e.1.sameKind (.b []))=true∧∀ k,k < W.g0.length→(sks.lookup (.b (idb k))).isSome=W.bd.contains k
  kno:∃ ks:List (Nat × V),H[W.kn]?=some (.dict (dB ks))∧(ks.map (·.1)).Nodup∧∀ p∈ks,p.1 < W.g0.length∧WcAt H P W.g W.t p.1 p.2
  lvl:∃ ls:List (Nat × Nat),H[W.lv]?=some (.dict (dB (flV ls)))∧(ls.map (·.1)).Nodup∧∀ p∈ls,p.1 < W.g0.length∧p.2=lev W.g p.1
  pw:P W.w
  psh:P W.sh
  pkn:P W.kn
  plv:P W.lv
  bound:∀ i,P i→i < H.length
  d1:W.kn≠W.lv
  d2:W.kn≠W.sh
  d3:W.lv≠W.sh
  d4:W.kn≠W.kp
  d5:W.lv≠W.kp
theorem keep_at {H H':AH}{P:Nat→Prop}{S:List Nat} (kp:Kp S H H') (hs:∀ i∈S,P i→∃ f,H[i]?=some (.dict f)) {i:Nat}{o:AObj} (h:H[i]?=some o) (p:P i) (nd:∀ f,o≠.dict f):H'[i]?=some o :=
  kp.at h fun m=>(hs i m p).elim fun f hf=>nd f (Option.some.inj (h.symm.trans hf))
theorem ComAt.keep {H H':AH}{P P':Nat→Prop}{S:List Nat}{ks:List (K × V)}{g0:Gr}{t:Nat→Int}{k:Nat} (kp:Kp S H H') (hs:∀ i∈S,P i→∃ f,H[i]?=some (.dict f)) (hP:∀ i,P i→P' i) (c:ComAt H P ks g0 t k):ComAt H' P' ks g0 t k:=by
  obtain ⟨c,h1,x,p1,p2,p3⟩:=c
  exact ⟨c,h1,⟨keep_at kp hs x.h2 p1 nofun,keep_at kp hs x.h3 p2 nofun,keep_at kp hs x.h4 p3 nofun,x.h5⟩,hP _ p1,hP _ p2,hP _ p3⟩
theorem WcAt.keep {H H':AH}{P P':Nat→Prop}{S:List Nat}{g:Gr}{t:Nat→Int}{k:Nat}{v:V} (kp:Kp S H H') (hs:∀ i∈S,P i→∃ f,H[i]?=some (.dict f)) (hP:∀ i,P i→P' i) (c:WcAt H P g t k v):WcAt H' P' g t k v:=by
  obtain ⟨wi,pl,tv,h0,h1,h2,p1,p2⟩:=c
  exact ⟨wi,pl,tv,h0,keep_at kp hs h1 p1 nofun,keep_at kp hs h2 p2 nofun,hP _ p1,hP _ p2⟩
theorem WI.keep {H H':AH}{P:Nat→Prop}{W:Wk}{S:List Nat} (X:WI H P W) (kp:Kp S H H') (hs:∀ i∈S,¬ P i):WI H' P W:=by
  have hs':∀ i∈S,P i→∃ f,H[i]?=some (.dict f):=fun i m p=>absurd p (hs i m)
  have at':∀ {i:Nat}{o:AObj},H[i]?=some o→P i→H'[i]?=some o:=fun {i o} h p=>kp.at h fun m=>hs i m p
  obtain ⟨⟨⟨hx,f1⟩,⟨ks,f2,f3,f4⟩,f5,f6⟩,a1,a2,a3,a4,a4',a5,⟨sks,a6,a7,a8⟩,⟨kk,a9,a10,a11⟩,⟨ll,b1,b2,b3⟩,p1,p2,p3,p4,b4,d1,d2,d3,d4,d5⟩:=X
  exact ⟨⟨⟨hx,at' f1 f5⟩,⟨ks,at' f2 f6,f3,fun k h=>(f4 k h).keep kp hs' fun _ p=>p⟩,f5,f6⟩,a1,a2,a3,a4,a4',at' a5 p1,⟨sks,at' a6 p2,a7,a8⟩,
    ⟨kk,at' a9 p3,a10,fun p m=>⟨(a11 p m).1,(a11 p m).2.keep kp hs' fun _ p=>p⟩⟩,⟨ll,at' b1 p4,b2,b3⟩,p1,p2,p3,p4,fun i p=>Nat.lt_of_lt_of_le (b4 i p) kp.len,d1,d2,d3,d4,d5⟩
section
variable {H:AH}{i k:Nat}{f:List (Nat × V)}{B:Bool→AH→Prop}{Q:V→AH→Prop}{U:AH→Prop}{kvs:List (K × V)}{x v:V}{κ:K}{r:Bool}{b b':List UInt8}
theorem isin_dict (h:H[i]?=some (.dict kvs)) (hk:x.key=some κ) (ha:kvs.all (fun e=>e.1.sameKind κ)=true) (e:(kvs.lookup κ).isSome=r) (q:B r H):cmpB .isin x (.ref i) H B:=in_dict h hk ha (e▸q)
theorem nin_dict (h:H[i]?=some (.dict kvs)) (hk:x.key=some κ) (ha:kvs.all (fun e=>e.1.sameKind κ)=true) (e:(kvs.lookup κ).isSome=r) (q:B (!r) H):cmpB .nin x (.ref i) H B:=in_dict (B:=fun r H=>B (!r) H) h hk ha (e▸q)
theorem dB_nin (h:H[i]?=some (.dict (dB f))) (hf:∀ p∈f,p.1 < 250) (hk:k < 250) (q:B (!(f.lookup k).isSome) H):cmpB .nin (idv k) (.ref i) H B:=nin_dict h rfl (dB_all _ _) (congrArg _ (dB_lookup hf hk)) q
theorem dB_isin (h:H[i]?=some (.dict (dB f))) (hf:∀ p∈f,p.1 < 250) (hk:k < 250) (q:B (f.lookup k).isSome H):cmpB .isin (idv k) (.ref i) H B:=isin_dict h rfl (dB_all _ _) (congrArg _ (dB_lookup hf hk)) q
theorem dB_sub (h:H[i]?=some (.dict (dB f))) (hf:∀ p∈f,p.1 < 250) (hk:k < 250) (e:f.lookup k=some v) (q:Q v H):subV (.ref i) (idv k) H Q:=sub_dict h rfl (dB_all _ _) ((dB_lookup hf hk).trans e) q
theorem dB_setk (h:H[i]?=some (.dict (dB f))) (hf:∀ p∈f,p.1 < 250) (hk:k < 250) (hl:f.length < 1000) (q:∀ H',Kp [i] H H'→H'[i]?=some (.dict (dB (putA f k x)))→H'.length=H.length→U H'):setI (.ref i) (idv k) x H U :=
  setd_k h rfl (dB_all _ _) (Nat.lt_of_le_of_lt (Nat.le_of_eq (List.length_map ..)) (Nat.lt_trans hl (by decide))) fun H' kp e=>q H' kp (e.trans (congrArg (fun z=>some (AObj.dict z)) (dB_put hf hk)))
theorem kinds {ks:List (K × V)} (h:(ks.all fun e=>e.1.sameKind (.b b))=true):(ks.all fun e=>e.1.sameKind (.b b'))=true:=by
  rw [List.all_eq_true] at h ⊢
  intro e m
  have:=h e m
  cases hk:e.1 with
  | b x=>rfl
  | s x=>rw [hk] at this;cases this
  | i x=>rw [hk] at this;cases this
end
theorem row_of_ok {d st kp:Nat}{hs v:V}{ks:List (K × V)}{b:List UInt8}{H:AH}{Q:V→AH→Prop} (h:H[st]?=some (.flds .MemoryStore [(.hasher,hs),(.kept,.ref kp)])) (hk:H[kp]?=some (.dict ks)) (ha:(ks.all fun e=>e.1.sameKind (.b []))=true)
    (e:ks.lookup (.b b)=some v) (hq:Q v H):callN (d+1) .row_of [.inst .MemoryStore st,.bytes b] H Q:=by
  refine call_of rfl rfl rfl rfl ?_
  left
  refine nin_dict hk rfl (kinds ha) (congrArg Option.isSome e) (iteB_f rfl ?_)
  left
  exact sub_dict hk rfl (kinds ha) e hq
theorem store_commit_ok {d st kp k:Nat}{P:Nat→Prop}{g0:Gr}{t:Nat→Int}{H:AH}{Q:V→AH→Prop} (S:StI H P st kp g0 t) (hk:k < g0.length)
    (hq:∀ c,ComIs H g0 t k c→Q (.inst .Commit c.ci) H):callN (d+3) .store_commit [.inst .MemoryStore st,idv k] H Q:=by
  obtain ⟨hs,f1⟩:=S.fl
  obtain ⟨ks,f2,f3,f4⟩:=S.kept
  obtain ⟨c,h1,x,_⟩:=f4 k hk
  refine call_of rfl rfl rfl rfl ?_
  left
  refine call_of rfl rfl rfl rfl ?_
  left
  refine row_of_ok f1 f2 f3 h1 ?_
  left
  refine iteB_f rfl ?_
  left
  exact hq c x
theorem wc_init_ok {d i:Nat}{a b c:V}{H:AH}{Q:V→AH→Prop} (h:H[i]?=some (.flds .WalkedCommit [])) (na:notCel a=true) (nb:notCel b=true) (nc:notCel c=true)
    (hq:∀ H',Kp [i] H H'→H'[i]?=some (.flds .WalkedCommit [(.parents,a),(.tree,b),(.date,c)])→H'.length=H.length→Q .none H'):callN (d+1) .wc_init [.inst .WalkedCommit i,a,b,c] H Q:=by
  refine call_of rfl rfl rfl rfl ?_
  left
  refine setf_k h (.head _) (Nat.zero_lt_succ _) fun H1 k1 h1 l1=>?_
  left
  refine setf_k h1 (.tail _ (.head _)) (show 1 < 100 by decide) fun H2 k2 h2 l2=>?_
  left
  refine setf_k h2 (.tail _ (.tail _ (.head _))) (show 2 < 100 by decide) fun H3 k3 h3 l3=>?_
  left
  exact hq _ ((k1.then k2).then k3) h3 (l3.trans (l2.trans l1))
theorem WI.known {H H':AH}{P P':Nat→Prop}{W:Wk}{kk:List (Nat × V)}{k:Nat}{v:V} (X:WI H P W) (e:H[W.kn]?=some (.dict (dB kk))) (e2:(kk.map (·.1)).Nodup) (e3:∀ p∈kk,p.1 < W.g0.length∧WcAt H P W.g W.t p.1 p.2) (hn:kk.lookup k=none) (hk:k < W.g0.length)
    (hP:∀ i,P i→P' i) (hb:∀ i,P' i→i < H.length) (wc:WcAt H P' W.g W.t k v) (kp:Kp [W.kn] H H') (e':H'[W.kn]?=some (.dict (dB (kk++[(k,v)])))):WI H' P' W:=by
  have hs:∀ (P:Nat→Prop),∀ i∈[W.kn],P i→∃ f,H[i]?=some (.dict f):=fun P i m _=>⟨_,mS m▸e⟩
  have nd:∀ {i:Nat}{o:AObj},H[i]?=some o→(∀ f,o≠.dict f)→i≠W.kn:=fun {i o} h n=>ne_of h e (n _)
  obtain ⟨⟨⟨hx,f1⟩,⟨ks,f2,f3,f4⟩,f5,f6⟩,a1,a2,a3,a4,a4',a5,⟨sks,a6,a7,a8⟩,_,⟨ll,b1,b2,b3⟩,p1,p2,p3,p4,b4,d1,d2,d3,d4,d5⟩:=X
  refine ⟨⟨⟨hx,kp.at1 f1 (nd f1 nofun)⟩,⟨ks,kp.at1 f2 (Ne.symm d4),f3,fun j h=>(f4 j h).keep kp (hs _) hP⟩,hP _ f5,hP _ f6⟩,a1,a2,a3,a4,a4',kp.at1 a5 (nd a5 nofun),⟨sks,kp.at1 a6 (Ne.symm d2),a7,a8⟩,
    ⟨kk++[(k,v)],e',?_,fun p m=>?_⟩,⟨ll,kp.at1 b1 (Ne.symm d1),b2,b3⟩,hP _ p1,hP _ p2,hP _ p3,hP _ p4,fun i p=>Nat.lt_of_lt_of_le (hb i p) kp.len,d1,d2,d3,d4,d5⟩
  · rw [List.map_append,List.nodup_append]
    exact ⟨e2,List.pairwise_singleton ..,fun a ha b hb' q=>lookup_none hn (by rw [← (mS hb':b=k),← q];exact ha)⟩
  · rcases mA m with m | m
    · exact ⟨(e3 p m).1,(e3 p m).2.keep kp (hs _) hP⟩
    · cases mS m
      exact ⟨hk,wc.keep kp (hs _) fun _ p=>p⟩
theorem WI.kkb {W:Wk}{H:AH}{P:Nat→Prop} (X:WI H P W) {k:Nat} (hk:k < W.g0.length):k < 250:=Nat.lt_of_lt_of_le hk (Nat.le_trans X.n (by decide))
theorem keys_few {kk:List (Nat × V)}{n:Nat} (h:n≤8) (e2:(kk.map (·.1)).Nodup) (e3:∀ p∈kk,p.1 < n):kk.length≤8 :=
  Nat.le_trans (Nat.le_of_eq (List.length_map ..).symm) (Nat.le_trans (nodup_len n (kk.map (·.1)) e2 fun a m=>by obtain ⟨p,hp,rfl⟩:=List.mem_map.mp m;exact e3 p hp) h)
theorem keys_app {kk:List (Nat × V)}{k n:Nat}{v:V} (h:∀ p∈kk,p.1 < n) (hk:k < n):∀ p∈kk++[(k,v)],p.1 < n:=fun p m=>by
  rcases mA m with m | m
  · exact h p m
  · cases mS m;exact hk
theorem look_app {kk:List (Nat × V)}{k:Nat}{v:V} (h:kk.lookup k=none):(kk++[(k,v)]).lookup k=some v:=by
  rw [List.lookup_append,h,List.lookup_cons,BEq.refl];rfl
theorem WI.deg' {W:Wk}{H:AH}{P:Nat→Prop} (X:WI H P W) {k:Nat} (hk:k < W.g0.length):(par W.g k).length≤3:=by
  rw [X.cut k hk];split
  · exact Nat.zero_le _
  · exact X.deg k hk
theorem WI.wf' {W:Wk}{H:AH}{P:Nat→Prop} (X:WI H P W) {k:Nat} (hk:k < W.g0.length):∀ x∈par W.g k,x < k:=fun x m=>by
  rw [X.cut k hk] at m
  split at m
  · cases m
  · exact X.wf k hk x m
noncomputable def Walked (H:AH) (P:Nat→Prop) (W:Wk) (H':AH):Prop:=Kp [W.kn,W.lv] H H'∧∃ P':Nat→Prop,WI H' P' W∧(∀ i,P i→P' i)∧∀ i,P' i→P i∨H.length≤i
theorem walked_ok {d k:Nat}{P:Nat→Prop}{W:Wk}{H:AH}{Q:V→AH→Prop} (X:WI H P W) (hk:k < W.g0.length)
    (hq:∀ v H' P',Kp [W.kn] H H'→WI H' P' W→(∀ i,P i→P' i)→(∀ i,P' i→P i∨H.length≤i)→WcAt H' P' W.g W.t k v→Q v H'):callN (d+4) .walked [.inst .Walk W.w,idv k] H Q:=by
  obtain ⟨kk,e1,e2,e3⟩:=X.kno
  have fl:=X.fl
  have hk250:=X.kkb hk
  have kkb:∀ p∈kk,p.1 < 250:=fun p m=>X.kkb (e3 p m).1
  refine call_of rfl rfl rfl rfl ?_
  left
  refine dB_nin e1 kkb hk250 ?_
  cases hl:kk.lookup k with
  | some v =>
    refine iteB_f rfl ?_
    left
    exact dB_sub e1 kkb hk250 hl (hq v H P .refl X (fun _ p=>p) (fun _ p=>.inl p) (e3 _ (lookup_mem' hl)).2)
  | none =>
    obtain ⟨sks,g1,g2,g3⟩:=X.shl
    obtain ⟨hs,u1⟩:=X.sto.fl
    refine iteB_t rfl ?_
    left
    refine store_commit_ok X.sto hk fun c x=>?_
    have h2:=x.h2
    left
    refine isin_dict g1 rfl (kinds g2) (g3 k hk) ?_
    have key:∀ {O:Orc}{l0 l1 l3:Option V} (Q:V→AH→Prop),(∀ H1,Kp [] H H1→H1[H.length]?=some (.list ((par W.g k).map idv))→H1.length=H.length+1→Q (.ref H.length) H1) →
        iteB (W.bd.contains k) (evE O (.lst []) [l0,l1,some (.inst .Commit c.ci),l3] H Q) (evE O (.listOf (.attr (.l 2) .parents)) [l0,l1,some (.inst .Commit c.ci),l3] H Q):=by
      intro O l0 l1 l3 Q q
      rw [X.cut k hk] at q
      cases hb:W.bd.contains k with
      | true =>
        rw [hb] at q
        refine iteB_t rfl ?_
        left
        exact new_k (lim_of rfl) q
      | false =>
        rw [hb] at q
        refine iteB_f rfl ?_
        left
        exact .inr (lst_of x.h3 (new_k (Nat.le_trans (Nat.le_of_eq (List.length_map ..)) (Nat.le_trans (X.deg k hk) (by decide))) q))
    refine key _ fun H1 k1 n1 l1=>?_
    have h21:=k1.at0 h2
    have h41:=k1.at0 x.h4
    left
    refine wc_init_ok (d:=d+2) get_new rfl x.h5 rfl fun H3 k3 f3 l3=>?_
    have l3:H3.length=H1.length+1:=l3.trans (List.length_append (as:=H1))
    have kB:Kp [H1.length] H1 H3:=Kp.app.then k3
    have kH:Kp [] H H3:=(k1.trans kB).mono fun i hi m=>absurd (Nat.lt_of_lt_of_le hi k1.len) (mS m▸Nat.lt_irrefl _)
    have fl3:=kH.at0 fl
    have kn3:=kH.at0 e1
    have X3:WI H3 P W:=X.keep kH nofun
    left
    refine dB_setk kn3 kkb hk250 (Nat.lt_of_le_of_lt (keys_few X.n e2 fun p m=>(e3 p m).1) (by decide)) fun H4 k4 e4 l4=>?_
    rw [putA_keys hl] at e4
    have wc:WcAt H3 (fun i=>P i∨i=H.length∨i=H1.length) W.g W.t k (.inst .WalkedCommit H1.length):=⟨_,_,_,rfl,f3,kB.at1 n1 (Nat.ne_of_lt (lt_of n1)),.inr (.inr rfl),.inr (.inl rfl)⟩
    have X4:=X3.known (v:=.inst .WalkedCommit H1.length) (P':=fun i=>P i∨i=H.length∨i=H1.length) kn3 e2 (fun p m=>⟨(e3 p m).1,(e3 p m).2.keep kH nofun fun _ p=>p⟩) hl hk (fun _ p=>.inl p)
      (fun i p=>p.elim (X3.bound i) fun p=>p.elim (fun p=>p▸Nat.lt_of_lt_of_le (lt_of n1) kB.len) fun p=>p▸Nat.lt_of_lt_of_eq (Nat.lt_succ_self _) l3.symm) wc k4 e4
    have fl4:=X4.fl
    left
    exact dB_sub e4 (keys_app kkb hk250) hk250 (look_app hl) (hq _ _ _ (kH.nil.then k4) X4 (fun _ p=>.inl p) (fun i p=>p.elim .inl fun p=>.inr (p.elim (fun p=>Nat.le_of_eq p.symm) fun p=>p▸k1.len)) (wc.keep k4 (fun i m _=>⟨_,mS m▸kn3⟩) fun _ p=>p))
theorem list_k {H:AH}{i:Nat}{vs:List V}{Q:V→AH→Prop} (h:H[i]?=some (.list vs)) (hl:vs.length≤lim) (q:∀ H',Kp [] H H'→H'[H.length]?=some (.list vs)→H'.length=H.length+1→Q (.ref H.length) H'):listV (.ref i) H Q:=.inr (lst_of h (new_k hl q))
theorem ids_lim {l:List Nat} (h:l.length≤1000):(l.map idv).length≤lim:=Nat.le_trans (Nat.le_of_eq (List.length_map ..)) (Nat.le_trans h (by decide))
theorem ids_lt {l:List Nat} (h:l.length≤1000):(l.map idv).length < lim:=Nat.lt_of_le_of_lt (Nat.le_of_eq (List.length_map ..)) (Nat.lt_of_le_of_lt h (by decide))
structure Af (H:AH) (P:Nat→Prop) (W:Wk) (H':AH) (P':Nat→Prop):Prop where
  kp:Kp [W.kn,W.lv] H H'
  wi:WI H' P' W
  up:∀ i,P i→P' i
  new:∀ i,P' i→P i∨H.length≤i
section
variable {H H' H'':AH}{P P' P'':Nat→Prop}{W:Wk}{i:Nat}{o:AObj}
theorem Af.refl (X:WI H P W):Af H P W H P:=⟨.refl,X,fun _ p=>p,fun _ p=>.inl p⟩
theorem Af.trans (a:Af H P W H' P') (b:Af H' P' W H'' P''):Af H P W H'' P'':=⟨a.kp.then b.kp,b.wi,fun i p=>b.up i (a.up i p),fun i p=>(b.new i p).elim (a.new i) fun q=>.inr (Nat.le_trans a.kp.len q)⟩
theorem Af.mem (a:Af H P W H' P') (k:Kp [] H' H''):Af H P W H'' P':=⟨a.kp.then k.nil,a.wi.keep k nofun,a.up,a.new⟩
theorem Af.off (a:Af H P W H' P') (h:H[i]?=some o) (n:¬ P i):¬ P' i:=fun p=>(a.new i p).elim n fun z=>Nat.lt_irrefl _ (Nat.lt_of_lt_of_le (lt_of h) z)
theorem Af.at (X:WI H P W) (a:Af H P W H' P') (h:H[i]?=some o) (n:¬ P i):H'[i]?=some o:=a.kp.at2 h (fun q=>n (q▸X.pkn)) fun q=>n (q▸X.plv)
theorem WI.fresh (X:WI H P W):¬ P H.length:=fun p=>Nat.lt_irrefl _ (X.bound _ p)
end
theorem parents_ok {d k:Nat}{P:Nat→Prop}{W:Wk}{H:AH}{Q:V→AH→Prop} (X:WI H P W) (hk:k < W.g0.length)
    (hq:∀ H' P' i,Af H P W H' P'→H'[i]?=some (.list ((par W.g k).map idv))→¬ P' i→H.length≤i→Q (.ref i) H'):callN (d+5) .parents [.inst .Walk W.w,idv k] H Q:=by
  have fl:=X.fl
  refine call_of rfl rfl rfl rfl ?_
  left
  refine walked_ok X hk fun v H' P' kp X' pp pq ⟨wi,pl,tv,e,h1,h2,p1,p2⟩=>?_
  subst e
  left
  exact list_k h2 (ids_lim (Nat.le_trans (X.deg' hk) (by decide))) fun H2 k2 e2 l2=>hq _ P' _ (Af.mem ⟨kp.one (.head _),X',pp,pq⟩ k2) e2 X'.fresh kp.len
theorem date_ok {d k:Nat}{P:Nat→Prop}{W:Wk}{H:AH}{Q:V→AH→Prop} (X:WI H P W) (hk:k < W.g0.length)
    (hq:∀ H' P',Af H P W H' P'→Q (.int (W.t k)) H'):callN (d+5) .date [.inst .Walk W.w,idv k] H Q:=by
  have fl:=X.fl
  refine call_of rfl rfl rfl rfl ?_
  left
  refine walked_ok X hk fun v H' P' kp X' pp pq ⟨wi,pl,tv,e,h1,h2,p1,p2⟩=>?_
  subst e
  left
  exact hq _ P' ⟨kp.one (.head _),X',pp,pq⟩
theorem levs_take:∀ (g r:Gr) (ls:List Nat),∃ x,levsGo (g++r) ls=levsGo g ls++x
  | [],r,ls=>by
    show ∃ x,levsGo r ls=ls++x
    induction r generalizing ls with
    | nil=>exact ⟨[],by simp [levsGo]⟩
    | cons a t ih =>
      obtain ⟨x,hx⟩:=ih (ls++[1+maxN (a.map fun j=>ls.getD j 0)])
      exact ⟨[1+maxN (a.map fun j=>ls.getD j 0)]++x,by unfold levsGo;rw [hx];simp⟩
  | a :: g,r,ls=>by
    have:=levs_take g r (ls++[1+maxN (a.map fun j=>ls.getD j 0)])
    exact this
theorem levsGo_len:∀ (g:Gr) (ls:List Nat),(levsGo g ls).length=ls.length+g.length
  | [],ls=>by simp [levsGo]
  | a :: g,ls=>by unfold levsGo;rw [levsGo_len g];simp;omega
theorem lev_eq {g:Gr}{k:Nat} (hk:k < g.length) (wf:∀ j∈par g k,j < k):lev g k=1+maxN ((par g k).map (lev g)):=by
  have hsplit:g=g.take k++(g.getD k []) :: g.drop (k+1):=by
    have h1:g.getD k []=g[k]:=by simp [List.getD,hk]
    rw [h1,← List.drop_eq_getElem_cons hk,List.take_append_drop]
  have hgo:∀ (g':Gr) (ls:List Nat) (r:List Nat) (t:Gr),levsGo (g'++r :: t) ls=levsGo t (levsGo g' ls++[1+maxN (r.map fun j=>(levsGo g' ls).getD j 0)]):=by
    intro g'
    induction g' with
    | nil=>intro ls r t;rfl
    | cons a g' ih=>intro ls r t;exact ih _ r t
  have hL:levs g=levsGo (g.drop (k+1)) (levsGo (g.take k) []++[1+maxN ((par g k).map fun j=>(levsGo (g.take k) []).getD j 0)]):=by
    unfold levs
    conv=>lhs;rw [hsplit]
    exact hgo _ _ _ _
  have hlen:(levsGo (g.take k) []).length=k:=by rw [levsGo_len];simp;omega
  obtain ⟨x,hx⟩:=levs_take [] (g.drop (k+1)) (levsGo (g.take k) []++[1+maxN ((par g k).map fun j=>(levsGo (g.take k) []).getD j 0)])
  have hx:levs g=(levsGo (g.take k) []++[1+maxN ((par g k).map fun j=>(levsGo (g.take k) []).getD j 0)])++x:=by rw [hL];exact hx
  have hlow:∀ j,j < k→lev g j=(levsGo (g.take k) []).getD j 0:=fun j hj=>by
    unfold lev
    rw [hx]
    simp only [List.getD]
    rw [List.getElem?_append_left (by simp;omega),List.getElem?_append_left (by omega)]
  have hself:lev g k=1+maxN ((par g k).map fun j=>(levsGo (g.take k) []).getD j 0):=by
    unfold lev
    rw [hx]
    simp only [List.getD]
    rw [List.getElem?_append_left (by simp;omega),List.getElem?_append_right (by omega),hlen]
    simp
  rw [hself]
  congr 2
  exact List.map_congr_left fun j hj=>(hlow j (wf j hj)).symm
section
variable {H:AH}{i k n v:Nat}{f:Fl}{B:Bool→AH→Prop}{Q:V→AH→Prop}{U:AH→Prop}{vs:List V}{x:V}{r:Bool}{l:List Nat}
theorem fl_isin (h:H[i]?=some (.dict (dB (flV f)))) (hf:∀ p∈f,p.1 < n) (hn:n≤8) (hk:k < n) (e:(look f k).isSome=r) (q:B r H):cmpB .isin (idv k) (.ref i) H B:=isin_dict h rfl (dB_all _ _) ((congrArg _ (flV_dB hf hn hk)).trans (Option.isSome_map.trans e)) q
theorem fl_nin (h:H[i]?=some (.dict (dB (flV f)))) (hf:∀ p∈f,p.1 < n) (hn:n≤8) (hk:k < n) (e:(look f k).isSome=r) (q:B (!r) H):cmpB .nin (idv k) (.ref i) H B:=nin_dict h rfl (dB_all _ _) ((congrArg _ (flV_dB hf hn hk)).trans (Option.isSome_map.trans e)) q
theorem fl_sub (h:H[i]?=some (.dict (dB (flV f)))) (hf:∀ p∈f,p.1 < n) (hn:n≤8) (hk:k < n) (e:look f k=some v) (q:Q (.int (v:Int)) H):subV (.ref i) (idv k) H Q:=sub_dict h rfl (dB_all _ _) ((flV_dB hf hn hk).trans (congrArg (Option.map _) e)) q
theorem fl_few (hf:∀ p∈f,p.1 < n) (hn:n≤8) (nd:(f.map (·.1)).Nodup):f.length≤8 :=
  Nat.le_trans (Nat.le_of_eq (List.length_map ..).symm) (Nat.le_trans (nodup_len n (f.map (·.1)) nd fun a m=>by obtain ⟨p,hp,rfl⟩:=List.mem_map.mp m;exact hf p hp) hn)
theorem fl_setk (h:H[i]?=some (.dict (dB (flV f)))) (hf:∀ p∈f,p.1 < n) (hn:n≤8) (hk:k < n) (nd:(f.map (·.1)).Nodup) (q:∀ H',Kp [i] H H'→H'[i]?=some (.dict (dB (flV (putN f k v))))→H'.length=H.length→U H'):setI (.ref i) (idv k) (.int (v:Int)) H U :=
  setd_k h rfl (dB_all _ _) (Nat.lt_of_le_of_lt (Nat.le_of_eq ((List.length_map ..).trans (List.length_map ..))) (Nat.lt_of_le_of_lt (fl_few hf hn nd) (by decide))) fun H' kp e=>q H' kp (e.trans (congrArg (fun z=>some (AObj.dict z)) (flV_dput hf hn hk)))
theorem eqSeq_nil:eqSeq vs []=some vs.isEmpty:=by cases vs<;>simp [eqSeq,eqPs]
theorem ne_empty {j:Nat} (h:H[i]?=some (.list vs)) (h2:H[j]?=some (.list [])) (e:vs.isEmpty=r) (q:B (!r) H):cmpB .ne (.ref i) (.ref j) H B:=ne_list h h2 (eqSeq_nil.trans (congrArg some e)) q
theorem eq_empty {j:Nat} (h:H[i]?=some (.list vs)) (h2:H[j]?=some (.list [])) (e:vs.isEmpty=r) (q:B r H):cmpB .eq (.ref i) (.ref j) H B:=eq_list h h2 (eqSeq_nil.trans (congrArg some e)) q
theorem app_some:(vs++[x]).isEmpty=false:=by cases vs<;>rfl
theorem sub_last (h:H[i]?=some (.list ((l++[k]).map idv))) (hl:l.length≤900) (q:Q (idv k) H):subV (.ref i) (.int (-1)) H Q:=by
  have e:(l++[k]).length=l.length+1:=List.length_append (as:=l)
  refine sub_listI h (ids_lim (Nat.le_trans (Nat.le_of_eq e) (Nat.le_trans (Nat.succ_le_succ hl) (by decide)))) ?_ q
  rw [List.length_map,e]
  have:place (l.length+1) (-1)=some l.length:=by
    unfold place
    rw [if_neg (by decide),if_pos (by omega)]
    congr 1;omega
  rw [this,Option.bind_some,List.map_append,List.getElem?_append_right (by rw [List.length_map];exact Nat.le_refl _),List.length_map,Nat.sub_self];rfl
theorem pop_lastk (h:H[i]?=some (.list ((l++[k]).map idv))) (hl:l.length≤900) (q:∀ H',Kp [i] H H'→H'[i]?=some (.list (l.map idv))→H'.length=H.length→Q (idv k) H'):popV (.ref i) H Q:=by
  rw [List.map_append] at h
  refine pop_of h ?_ List.getLast?_concat ?_
  · rw [List.length_append,List.length_map];exact Nat.le_trans (Nat.succ_le_succ hl) (by decide)
  · rw [List.map_cons,List.map_nil,List.dropLast_concat];exact q _ (.set (.head _)) (get_set h) List.length_set
theorem ext_k {j:Nat}{ws:List V} (n:i≠j) (h:H[i]?=some (.list vs)) (h2:H[j]?=some (.list ws)) (hl:vs.length+ws.length≤lim) (q:∀ H',Kp [i] H H'→H'[i]?=some (.list (vs++ws))→H'.length=H.length→Q .none H'):extV (.ref i) (.ref j) H Q:=ext_of n h h2 hl (q _ (.set (.head _)) (get_set h) List.length_set)
theorem add_k {j:Nat}{ws:List V} (h:H[i]?=some (.list vs)) (h2:H[j]?=some (.list ws)) (hl:(vs++ws).length≤lim) (q:∀ H',Kp [] H H'→H'[H.length]?=some (.list (vs++ws))→H'.length=H.length+1→Q (.ref H.length) H'):binV .add (.ref i) (.ref j) H Q:=add_lists h h2 hl (q _ .app get_new (List.length_append (as:=H)))
theorem max_of {m:Int} (h:H[i]?=some (.list vs)) (e:maxInts vs=some m) (q:Q (.int m) H):maxV (.ref i) H Q:=optK_of h (optK_of e q)
end
theorem maxInts_cons (x:Int) {t:List V} (ht:t≠[]):maxInts (.int x :: t)=(maxInts t).map fun m=>if x < m then m else x:=by
  cases t with
  | nil=>exact absurd rfl ht
  | cons=>rfl
theorem maxInts_map (f:Nat→Nat):∀ l:List Nat,maxInts (l.map (fun x=>V.int (f x:Int))++[.int 0])=some ((maxN (l.map f):Nat):Int)
  | []=>rfl
  | a :: r=>by
    rw [List.map_cons,List.cons_append,maxInts_cons _ (List.append_ne_nil_of_right_ne_nil _ (List.cons_ne_nil _ _)),maxInts_map f r]
    simp only [Option.map_some,List.map_cons,maxN]
    congr 1
    split<;>(show _=((max (f a) (maxN (List.map f r)):Nat):Int);omega)
noncomputable def LevIn (H:AH) (W:Wk) (k:Nat):Prop:=∃ ds,H[W.lv]?=some (.dict ds)∧(ds.lookup (.b (idb k))).isSome=true
theorem LevIn.eq {H H':AH}{W:Wk} (e:H'[W.lv]?=H[W.lv]?) {k:Nat}:LevIn H' W k↔LevIn H W k:=by unfold LevIn;rw [e]
theorem lev_iff {H:AH}{W:Wk}{ls:Fl}{k n:Nat} (e:H[W.lv]?=some (.dict (dB (flV ls)))) (hf:∀ p∈ls,p.1 < n) (hn:n≤8) (hk:k < n):LevIn H W k↔(look ls k).isSome=true:=by
  have z:=(congrArg Option.isSome (flV_dB hf hn hk)).trans Option.isSome_map
  exact ⟨fun ⟨ds,a,b⟩=>by rw [e] at a;cases a;exact z.symm.trans b,fun h=>⟨_,e,z.trans h⟩⟩
theorem WI.level {H H':AH}{P:Nat→Prop}{W:Wk}{ls:Fl}{k:Nat} (X:WI H P W) (e:H[W.lv]?=some (.dict (dB (flV ls)))) (e2:(ls.map (·.1)).Nodup) (e3:∀ p∈ls,p.1 < W.g0.length∧p.2=lev W.g p.1) (hn:look ls k=none) (hk:k < W.g0.length)
    (kp:Kp [W.lv] H H') (e':H'[W.lv]?=some (.dict (dB (flV (putN ls k (lev W.g k)))))):WI H' P W:=by
  have hs:∀ (P:Nat→Prop),∀ i∈[W.lv],P i→∃ f,H[i]?=some (.dict f):=fun P i m _=>⟨_,mS m▸e⟩
  have nd:∀ {i:Nat}{o:AObj},H[i]?=some o→(∀ f,o≠.dict f)→i≠W.lv:=fun {i o} h n=>ne_of h e (n _)
  obtain ⟨⟨⟨hx,f1⟩,⟨ks,f2,f3,f4⟩,f5,f6⟩,a1,a2,a3,a4,a4',a5,⟨sks,a6,a7,a8⟩,⟨kk,b1,b2,b3⟩,_,p1,p2,p3,p4,b4,d1,d2,d3,d4,d5⟩:=X
  rw [putN_none hn] at e'
  refine ⟨⟨⟨hx,kp.at1 f1 (nd f1 nofun)⟩,⟨ks,kp.at1 f2 (Ne.symm d5),f3,fun j h=>(f4 j h).keep kp (hs _) fun _ p=>p⟩,f5,f6⟩,a1,a2,a3,a4,a4',kp.at1 a5 (nd a5 nofun),⟨sks,kp.at1 a6 (Ne.symm d3),a7,a8⟩,
    ⟨kk,kp.at1 b1 d1,b2,fun p m=>⟨(b3 p m).1,(b3 p m).2.keep kp (hs _) fun _ p=>p⟩⟩,⟨ls++[(k,lev W.g k)],e',?_,fun p m=>?_⟩,p1,p2,p3,p4,fun i p=>Nat.lt_of_lt_of_le (b4 i p) kp.len,d1,d2,d3,d4,d5⟩
  · rw [List.map_append,List.nodup_append]
    exact ⟨e2,List.pairwise_singleton ..,fun a ha b hb' q=>look_none hn (by rw [← (mS hb':b=k),← q];exact ha)⟩
  · rcases mA m with m | m
    · exact e3 p m
    · cases mS m;exact ⟨hk,rfl⟩
noncomputable abbrev lvT:T:=.cmp .ne (.l 2) (.lst [])
noncomputable abbrev lvB:List S:=[.asg (.v 3) (.sub (.l 2) (.neg (.c (.int 1)))),
      .ite (.cmp .isin (.l 3) (.attr (.l 0) .levels)) [.ex (.pop (.l 2)),
      .cont] [],
      .asg (.v 4) (.attr (.me (.l 0) .walked [(.l 3)]) .parents),
      .asg (.v 5) (.comp (.l 0) 1 (.ex (.l 4)) (some (.cmp .nin (.l 0) (.attr (.l 1) .levels)))),
      .ite (.cmp .ne (.l 5) (.lst [])) [.ex (.ext (.l 2) (.l 5)),
      .cont] [],
      .asg (.sb (.attr (.l 0) .levels) (.l 3)) (.bin .add (.c (.int 1)) (.max (.bin .add (.comp (.sub (.attr (.l 1) .levels) (.l 0)) 1 (.ex (.l 4)) none) (.lst [(.c (.int 0))])))),
      .ex (.pop (.l 2))]
noncomputable abbrev lloc (W:Wk) (k0 Wt:Nat) (a b c:Option V):Loc:=[some (.inst .Walk W.w),some (idv k0),some (.ref Wt),a,b,c]
noncomputable abbrev lw (d f:Nat) (W:Wk) (k0 Wt:Nat) (a b c:Option V) (H:AH) (N:Loc→AH→Prop) (R:V→AH→Prop):Prop:=whileTurns (evT (orc (d+4)) lvT) (evSs (orc (d+4)) lvB) f (lloc W k0 Wt a b c) H N R
structure LSt (H0:AH) (P:Nat→Prop) (W:Wk) (Wt:Nat) (S:List Nat) (H':AH) (P':Nat→Prop):Prop where
  stk:H'[Wt]?=some (.list (S.map idv))
  wi:WI H' P' W
  off:¬ P' Wt
  old:H0.length≤Wt
  kp:Kp [W.kn,W.lv,Wt] H0 H'
  up:∀ i,P i→P' i
  new:∀ i,P' i→P i∨H0.length≤i
  lt:∀ s∈S,s < W.g0.length
section
variable {H0 H H':AH}{P P':Nat→Prop}{W:Wk}{Wt:Nat}{S S':List Nat}
theorem LSt.mem (t:LSt H0 P W Wt S H P') (k:Kp [] H H'):LSt H0 P W Wt S H' P':=⟨k.at0 t.stk,t.wi.keep k nofun,t.off,t.old,t.kp.then k.nil,t.up,t.new,t.lt⟩
theorem LSt.stack (t:LSt H0 P W Wt S H P') (k:Kp [Wt] H H') (e:H'[Wt]?=some (.list (S'.map idv))) (lt:∀ s∈S',s < W.g0.length):LSt H0 P W Wt S' H' P' :=
  ⟨e,t.wi.keep k fun i m p=>t.off (mS m▸p),t.off,t.old,t.kp.then (k.one (.tail _ (.tail _ (.head _)))),t.up,t.new,lt⟩
theorem LSt.nlv (t:LSt H0 P W Wt S H P'):W.lv≠Wt:=fun q=>t.off (q▸t.wi.plv)
end
theorem lvl_step {d f:Nat}{H0 H':AH}{P P':Nat→Prop}{W:Wk}{k0 Wt k:Nat}{S:List Nat}{a b c:Option V}{N:Loc→AH→Prop}{R:V→AH→Prop} (s:LSt H0 P W Wt (S++[k]) H' P') (hS:S.length≤890) (hk:k < W.g0.length) (na:notCelO a=true) (nb:notCelO b=true) (nc:notCelO c=true)
    (h1:∀ a b c H'' P'',notCelO a=true→notCelO b=true→notCelO c=true→LSt H0 P W Wt S H'' P''→LevIn H'' W k→(∀ j,j < W.g0.length→LevIn H' W j→LevIn H'' W j)→lw d f W k0 Wt a b c H'' N R)
    (h2:∀ a b c H'' P'' left,notCelO a=true→notCelO b=true→notCelO c=true→left≠[]→left.length≤3→(∀ p∈left,p∈par W.g k∧¬ LevIn H' W p)→(∀ p∈par W.g k,LevIn H' W p∨p∈left)→LSt H0 P W Wt (S++[k]++left) H'' P''→(∀ j,j < W.g0.length→LevIn H' W j→LevIn H'' W j)→lw d f W k0 Wt a b c H'' N R) :
    lw d (f+1) W k0 Wt a b c H' N R:=by
  have hn:=s.wi.n
  have hS9:S.length≤900:=Nat.le_trans hS (by decide)
  refine w_s ?_
  left
  refine new_k (lim_of rfl) fun H1 k1 e1 l1=>?_
  have s1:=s.mem k1
  refine ne_empty (r:=false) s1.stk e1 (by rw [List.map_append];exact app_some) (iteB_t rfl ?_)
  left
  refine sub_last s1.stk hS9 ?_
  have fl1:=s1.wi.fl
  obtain ⟨ls,e2,e3,e4⟩:=s1.wi.lvl
  have hls:∀ p∈ls,p.1 < W.g0.length:=fun p m=>(e4 p m).1
  have el1:=k1.get W.lv (s.wi.bound _ s.wi.plv) (List.not_mem_nil)
  have down:∀ s'∈S,s' < W.g0.length:=fun q m=>s.lt q (List.mem_append_left _ m)
  left
  cases hl:look ls k with
  | some v =>
    refine fl_isin e2 hls hn hk (congrArg _ hl) (iteB_t rfl ?_)
    left
    refine pop_lastk s1.stk hS9 fun H2 k2 p2 l2=>?_
    have el2:=k2.get W.lv (lt_of e2) fun m=>s.nlv (mS m)
    left
    exact h1 _ _ _ _ P' rfl nb nc (s1.stack k2 p2 down) ((LevIn.eq el2).mpr ((lev_iff e2 hls hn hk).mpr (congrArg _ hl))) fun j _ h=>(LevIn.eq el2).mpr ((LevIn.eq el1).mpr h)
  | none =>
    refine fl_isin e2 hls hn hk (congrArg _ hl) (iteB_f rfl ?_)
    left
    refine walked_ok s1.wi hk fun v H2 P2 kp X2 up2 new2 ⟨wi,pl,tv,e,f1,f2,p1,p2⟩=>?_
    subst e
    have s2:LSt H0 P W Wt (S++[k]) H2 P2:=⟨kp.at1 s1.stk fun q=>s1.off (q▸s1.wi.pkn),X2,fun p=>(new2 _ p).elim s1.off fun z=>Nat.lt_irrefl _ (Nat.lt_of_lt_of_le (lt_of s1.stk) z),s1.old,s1.kp.then (kp.one (.head _)),fun i p=>up2 i (s1.up i p),fun i p=>(new2 i p).elim (s1.new i) fun q=>.inr (Nat.le_trans s1.kp.len q),s1.lt⟩
    have el2:=kp.at1 e2 (Ne.symm X2.d1)
    have fl2:=X2.fl
    have wfk:=X2.wf' hk
    have degk:=X2.deg' hk
    have hpar:∀ x∈par W.g k,x < W.g0.length:=fun x m=>Nat.lt_trans (wfk x m) hk
    left
    refine comp_map (par W.g k) idv idv (fun x=>[some (idv x)]) (fun x=>!(look ls x).isSome) (it_live f2) (fun x _ B q=>.inl ⟨rfl,q⟩) (fun x hx R r=>?_) (fun x hx _ R r=>?_) (Nat.lt_of_le_of_lt degk (by decide)) ?_
    · left
      exact fl_nin el2 hls hn (hpar x hx) rfl r
    · left
      exact r
    have iff2:∀ {x},x < W.g0.length→(LevIn H' W x↔(look ls x).isSome=true):=fun hx=>(LevIn.eq el1).symm.trans (lev_iff e2 hls hn hx)
    have hleft:∀ x∈(par W.g k).filter (fun x=>!(look ls x).isSome),x∈par W.g k∧¬ LevIn H' W x:=fun x m=>by
      obtain ⟨m1,m2⟩:=List.mem_filter.mp m
      exact ⟨m1,fun q=>by rw [(iff2 (hpar x m1)).mp q] at m2;cases m2⟩
    have hrest:∀ x∈par W.g k,LevIn H' W x∨x∈(par W.g k).filter (fun x=>!(look ls x).isSome):=fun x m=>by
      cases q:(look ls x).isSome with
      | true=>exact .inl ((iff2 (hpar x m)).mpr q)
      | false=>exact .inr (List.mem_filter.mpr ⟨m,by rw [q];rfl⟩)
    have hll:((par W.g k).filter (fun x=>!(look ls x).isSome)).length≤3:=Nat.le_trans (List.length_filter_le ..) degk
    revert hleft hrest hll
    generalize (par W.g k).filter (fun x=>!(look ls x).isSome)=left
    intro hleft hrest hll
    refine new_k (ids_lim (Nat.le_trans hll (by decide))) fun H3 k3 e5 l3=>?_
    left
    refine new_k (lim_of rfl) fun H4 k4 e6 l4=>?_
    have s4:=(s2.mem k3).mem k4
    have el4:=k4.at0 (k3.at0 el2)
    have mono4:∀ {j},LevIn H' W j→LevIn H4 W j:=fun h=>(LevIn.eq (el4.trans e2.symm)).mpr ((LevIn.eq el1).mpr h)
    have e7:=k4.at0 e5
    cases left with
    | cons x r =>
      refine ne_empty e7 e6 rfl (iteB_t rfl ?_)
      have hstk:=s4.stk
      left
      refine ext_k (fun q=>absurd (q▸lt_of s2.stk:H2.length < H2.length) (Nat.lt_irrefl _)) s4.stk e7 ?_ fun H5 k5 e8 l5=>?_
      · rw [List.length_map,List.length_map,List.length_append];exact Nat.le_trans (Nat.add_le_add (Nat.add_le_add hS (Nat.le_refl 1)) hll) (by decide)
      rw [← List.map_append] at e8
      left
      exact h2 _ _ _ _ P2 (x :: r) rfl rfl rfl nofun hll hleft hrest (s4.stack k5 e8 fun q m=>(mA m).elim (s.lt q) fun m=>hpar q (hleft q m).1) fun j _ h=>(LevIn.eq (k5.get W.lv (lt_of el4) fun m=>s.nlv (mS m))).mpr (mono4 h)
    | nil =>
      refine ne_empty e7 e6 rfl (iteB_f rfl ?_)
      have f4:=k4.at0 (k3.at0 f2)
      have fl4:=s4.wi.fl
      have hval:∀ x∈par W.g k,look ls x=some (lev W.g x):=fun x m=>by
        have z:=(iff2 (hpar x m)).mp ((hrest x m).resolve_right List.not_mem_nil)
        cases q:look ls x with
        | none=>rw [q] at z;cases z
        | some v=>exact congrArg some (e4 _ (look_mem q)).2
      left
      refine comp_map (par W.g k) idv (fun x=>V.int (lev W.g x:Int)) (fun x=>[some (idv x)]) (fun _=>true) (it_live f4) (fun x _ B q=>.inl ⟨rfl,q⟩) (fun x hx R r=>r) (fun x hx _ R r=>?_) (Nat.lt_of_le_of_lt degk (by decide)) ?_
      · left
        exact fl_sub el4 hls hn (hpar x hx) (hval x hx) r
      rw [List.filter_eq_self.mpr fun _ _=>rfl]
      have dl:((par W.g k).map fun x=>V.int (lev W.g x:Int)).length≤3:=Nat.le_trans (Nat.le_of_eq (List.length_map ..)) degk
      refine new_k (Nat.le_trans dl (by decide)) fun H5 k5 e8 l5=>?_
      left
      refine new_k (lim_of rfl) fun H6 k6 e9 l6=>?_
      refine add_k (k6.at0 e8) e9 (Nat.le_trans (Nat.le_of_eq (List.length_append ..)) (Nat.le_trans (Nat.add_le_add dl (Nat.le_refl 1)) (by decide))) fun H7 k7 e10 l7=>?_
      refine max_of e10 (maxInts_map ..) ?_
      left
      have s7:=((s4.mem k5).mem k6).mem k7
      have fl7:=s7.wi.fl
      have el7:=k7.at0 (k6.at0 (k5.at0 el4))
      have hlev:(1:Int)+((maxN ((par W.g k).map (lev W.g)):Nat):Int)=((lev W.g k:Nat):Int):=by
        rw [lev_eq (g:=W.g) (X2.len▸hk) wfk];exact (Int.natCast_add 1 _).symm
      rw [hlev]
      left
      refine fl_setk el7 hls hn hk e3 fun H8 k8 e11 l8=>?_
      have X8:=s7.wi.level el7 e3 e4 hl hk k8 e11
      have s8:LSt H0 P W Wt (S++[k]) H8 P2:=⟨k8.at1 s7.stk (Ne.symm s.nlv),X8,s7.off,s7.old,s7.kp.then (k8.one (.tail _ (.head _))),s7.up,s7.new,s7.lt⟩
      left
      refine pop_lastk s8.stk hS9 fun H9 k9 e12 l9=>?_
      have el9:=k9.at1 e11 s.nlv
      have hp:∀ p∈putN ls k (lev W.g k),p.1 < W.g0.length:=putN_keys _ _ _ _ hls hk
      have ink:∀ j,j < W.g0.length→(look (putN ls k (lev W.g k)) j).isSome=true→LevIn H9 W j:=fun j hj h=>(lev_iff el9 hp hn hj).mpr h
      left
      refine h1 _ _ _ _ P2 rfl rfl rfl (s8.stack k9 e12 down) (ink k hk (congrArg Option.isSome look_put)) fun j hj h=>ink j hj ?_
      exact look_put_mono ((iff2 hj).mp h)
theorem four_mono {p k:Nat} (h:p < k):4 ^ (p+1)≤4 ^ k:=Nat.pow_le_pow_right (by decide) h
theorem lvl_list {d:Nat}{H0:AH}{P:Nat→Prop}{W:Wk}{k0 Wt k:Nat}{N:Loc→AH→Prop}{R:V→AH→Prop}
    (claim:∀ p,p < k→∀ (S:List Nat) a b c H' P' m,notCelO a=true→notCelO b=true→notCelO c=true→LSt H0 P W Wt (S++[p]) H' P'→S.length+4 * p+4≤890 →
      (∀ a b c H'' P'',notCelO a=true→notCelO b=true→notCelO c=true→LSt H0 P W Wt S H'' P''→LevIn H'' W p→(∀ j,j < W.g0.length→LevIn H' W j→LevIn H'' W j)→∀ f,m≤f→lw d f W k0 Wt a b c H'' N R) →
      ∀ f,m+4 ^ (p+1)≤f→lw d f W k0 Wt a b c H' N R) :
    ∀ (n:Nat) (left:List Nat),left.length=n→(∀ p∈left,p < k)→∀ (S:List Nat) a b c H' P' m,notCelO a=true→notCelO b=true→notCelO c=true→LSt H0 P W Wt (S++left) H' P'→S.length+left.length+4 * k≤890 →
      (∀ a b c H'' P'',notCelO a=true→notCelO b=true→notCelO c=true→LSt H0 P W Wt S H'' P''→(∀ p∈left,LevIn H'' W p)→(∀ j,j < W.g0.length→LevIn H' W j→LevIn H'' W j)→∀ f,m≤f→lw d f W k0 Wt a b c H'' N R) →
      ∀ f,m+n * 4 ^ k≤f→lw d f W k0 Wt a b c H' N R:=by
  intro n
  induction n with
  | zero =>
    intro left hn hlt S a b c H' P' m na nb nc s hS cont f hf
    cases List.length_eq_zero_iff.mp hn
    rw [List.append_nil] at s
    exact cont a b c H' P' na nb nc s nofun (fun _ _ h=>h) f (Nat.le_of_add_right_le hf)
  | succ n ih =>
    intro left hn hlt S a b c H' P' m na nb nc s hS cont f hf
    rcases List.eq_nil_or_concat left with q | ⟨l',p,q⟩
    · subst q;cases hn
    rw [List.concat_eq_append] at q
    subst q
    have hp:p < k:=hlt p (List.mem_append_right _ (.head _))
    have hpl:p∈l'++[p]:=List.mem_append_right _ (.head _)
    have hll:(l'++[p]).length=l'.length+1:=List.length_append (as:=l')
    rw [hll] at hn hS
    have hl':=Nat.succ.inj hn
    rw [← List.append_assoc] at s
    have hmul:m+n * 4 ^ k+4 ^ (p+1)≤m+(n+1) * 4 ^ k:=by rw [Nat.succ_mul,← Nat.add_assoc];exact Nat.add_le_add_left (four_mono hp) _
    refine claim p hp (S++l') a b c H' P' (m+n * 4 ^ k) na nb nc s (by rw [List.length_append,Nat.add_assoc _ (4 * p) 4];exact Nat.le_trans (Nat.add_le_add (Nat.add_le_add_left (Nat.le_succ l'.length) S.length) (Nat.mul_le_mul_left 4 hp:4 * p+4≤4 * k)) hS) (fun a2 b2 c2 H2 P2 na2 nb2 nc2 s2 in2 mono2 f2 hf2=>?_) f (Nat.le_trans hmul hf)
    refine ih l' hl' (fun q hq=>hlt q (List.mem_append_left _ hq)) S a2 b2 c2 H2 P2 m na2 nb2 nc2 s2 (Nat.le_trans (Nat.add_le_add_right (Nat.add_le_add_left (Nat.le_succ l'.length) S.length) (4 * k)) hS) (fun a3 b3 c3 H3 P3 na3 nb3 nc3 s3 in3 mono3 f3 hf3=>?_) f2 hf2
    exact cont a3 b3 c3 H3 P3 na3 nb3 nc3 s3 (fun q hq=>(mA hq).elim (in3 q) fun hq=>mS hq▸mono3 p (s.lt p (List.mem_append_right _ (.head _))) in2) (fun j hj h=>mono3 j hj (mono2 j hj h)) f3 hf3
theorem lvl_claim {d:Nat}{H0:AH}{P:Nat→Prop}{W:Wk}{k0 Wt:Nat}{N:Loc→AH→Prop}{R:V→AH→Prop} :
    ∀ k,∀ (S:List Nat) a b c H' P' m,notCelO a=true→notCelO b=true→notCelO c=true→LSt H0 P W Wt (S++[k]) H' P'→S.length+4 * k+4≤890 →
      (∀ a b c H'' P'',notCelO a=true→notCelO b=true→notCelO c=true→LSt H0 P W Wt S H'' P''→LevIn H'' W k→(∀ j,j < W.g0.length→LevIn H' W j→LevIn H'' W j)→∀ f,m≤f→lw d f W k0 Wt a b c H'' N R) →
      ∀ f,m+4 ^ (k+1)≤f→lw d f W k0 Wt a b c H' N R:=by
  intro k
  induction k using Nat.strongRecOn with
  | ind k ih =>
    intro S a b c H' P' m na nb nc s hS cont f hf
    have hk:k < W.g0.length:=s.lt k (List.mem_append_right _ (.head _))
    have h4:4 ^ (k+1)=4 * 4 ^ k:=(Nat.pow_succ ..).trans (Nat.mul_comm ..)
    have hpos:0 < 4 ^ k:=Nat.pow_pos (by decide)
    cases f with
    | zero=>omega
    | succ f =>
    refine lvl_step s (Nat.le_of_add_right_le (Nat.le_of_add_right_le hS)) hk na nb nc (fun a2 b2 c2 H2 P2 na2 nb2 nc2 s2 in2 mono2=>cont a2 b2 c2 H2 P2 na2 nb2 nc2 s2 in2 mono2 f (by omega)) fun a2 b2 c2 H2 P2 left na2 nb2 nc2 hne hll hleft hrest s2 mono2=>?_
    have wfk:=s.wi.wf' hk
    have hk1:1≤k:=by
      cases left with
      | nil=>exact absurd rfl hne
      | cons a r=>exact Nat.lt_of_le_of_lt (Nat.zero_le _) (wfk a (hleft a (List.mem_cons_self ..)).1)
    have hbig:4 ^ 1≤4 ^ k:=Nat.pow_le_pow_right (by decide) hk1
    have hmul:left.length * 4 ^ k≤3 * 4 ^ k:=Nat.mul_le_mul_right _ hll
    refine lvl_list (k:=k) ih left.length left rfl (fun p hp=>wfk p (hleft p hp).1) (S++[k]) a2 b2 c2 H2 P2 (m+1) na2 nb2 nc2 s2 (by rw [List.length_append];exact Nat.le_trans (by show S.length+1+left.length+4 * k≤S.length+4 * k+4;omega) hS) (fun a3 b3 c3 H3 P3 na3 nb3 nc3 s3 in3 mono3 f3 hf3=>?_) f (by omega)
    cases f3 with
    | zero=>exact absurd hf3 (Nat.not_succ_le_zero _)
    | succ f3 =>
    refine lvl_step s3 (Nat.le_of_add_right_le (Nat.le_of_add_right_le hS)) hk na3 nb3 nc3 (fun a4 b4 c4 H4 P4 na4 nb4 nc4 s4 in4 mono4=>cont a4 b4 c4 H4 P4 na4 nb4 nc4 s4 in4 (fun j hj h=>mono4 j hj (mono3 j hj (mono2 j hj h))) f3 (Nat.le_of_succ_le_succ hf3)) fun _ _ _ _ _ left2 _ _ _ hne2 _ hleft2 _ _ _=>?_
    cases left2 with
    | nil=>exact absurd rfl hne2
    | cons a r =>
      obtain ⟨q1,q2⟩:=hleft2 a (List.mem_cons_self ..)
      exact absurd ((hrest a q1).elim (fun h=>mono3 a (Nat.lt_trans (wfk a q1) hk) (mono2 a (Nat.lt_trans (wfk a q1) hk) h)) (in3 a)) q2
theorem level_ok {d k:Nat}{P:Nat→Prop}{W:Wk}{H:AH}{Q:V→AH→Prop} (X:WI H P W) (hk:k < W.g0.length)
    (hq:∀ H' P',Af H P W H' P'→Q (.int (lev W.g k:Int)) H'):callN (d+5) .level [.inst .Walk W.w,idv k] H Q:=by
  refine call_of rfl rfl rfl rfl ?_
  left
  refine new_k (lim_of rfl) fun H1 k1 e1 l1=>?_
  have s:LSt H P W H.length ([]++[k]) H1 P:=⟨e1,X.keep k1 nofun,X.fresh,Nat.le_refl _,k1.nil,fun _ p=>p,fun _ p=>.inl p,fun q m=>mS m▸hk⟩
  have hn:=X.n
  have hk8:k≤7:=Nat.le_of_lt_succ (Nat.lt_of_lt_of_le hk hn)
  refine g_v rfl ?_
  refine ss_c (s_while ?_)
  refine lvl_claim (d:=d) (k0:=k) k [] none none none H1 P 1 rfl rfl rfl s ?_ (fun a b c H2 P2 na nb nc s2 in2 mono2 f hf=>?_) fuelWhile ?_
  · exact Nat.le_trans (Nat.add_le_add_right (Nat.add_le_add_left (Nat.mul_le_mul_left 4 hk8) _) 4) (by decide)
  · cases f with
    | zero=>exact absurd hf (Nat.not_succ_le_zero _)
    | succ f =>
    refine w_s ?_
    left
    refine new_k (lim_of rfl) fun H3 k3 e3 l3=>?_
    refine ne_empty (k3.at0 s2.stk) e3 rfl (iteB_f rfl ?_)
    obtain ⟨ls,f1,f2,f3⟩:=s2.wi.lvl
    have hls:∀ p∈ls,p.1 < W.g0.length:=fun p m=>(f3 p m).1
    have X3:=s2.wi.keep k3 nofun
    have fl3:=X3.fl
    left
    cases hl:look ls k with
    | none=>have z:=(lev_iff f1 hls hn hk).mp in2;rw [hl] at z;cases z
    | some v =>
      have hv:v=lev W.g k:=(f3 _ (look_mem hl)).2
      refine fl_sub (k3.at0 f1) hls hn hk hl (hv▸hq H3 P2 ⟨?_,X3,s2.up,s2.new⟩)
      exact (s2.kp.then k3.nil).mono fun i hi m=>(mZ m).elim (·▸.head _) fun m=>(mZ m).elim (·▸.tail _ (.head _)) fun m=>absurd (mS m▸hi) (Nat.lt_irrefl _)
  · exact Nat.le_trans (Nat.add_le_add_left (Nat.pow_le_pow_right (by decide) (Nat.succ_le_succ hk8)) 1) (by decide)
theorem swap_len (rows:List Qr):∀ (n a:Nat),(siftUp n rows a).length=rows.length:=by
  intro n
  induction n generalizing rows with
  | zero=>intro a;rfl
  | succ n ih =>
    intro a
    cases a with
    | zero=>rfl
    | succ a =>
      unfold siftUp
      split
      · rfl
      · rw [ih,swapQ_len]
theorem sink_len (rows:List Qr):∀ (n a:Nat),(sinkQ n rows a).length=rows.length:=by
  intro n
  induction n generalizing rows with
  | zero=>intro a;rfl
  | succ n ih =>
    intro a
    unfold sinkQ
    dsimp only
    split
    · rfl
    · rw [ih,swapQ_len]
theorem put_len (rows:List Qr) (x:Qr):(putQ rows x).length=rows.length+1:=by unfold putQ;rw [swap_len];simp
theorem take_len (rows:List Qr):(takeQ rows).2.length=rows.length - 1:=by
  unfold takeQ
  have:=List.length_dropLast (xs:=rows)
  cases h:rows.dropLast with
  | nil=>rw [h] at this;simpa using this
  | cons a r=>rw [h] at this;simp only [sink_len];rw [List.length_set];exact this
theorem putN_nd {f:Fl}{k v:Nat} (nd:(f.map (·.1)).Nodup):((putN f k v).map (·.1)).Nodup:=by
  cases h:look f k with
  | some w=>rw [putN_some h];exact nd
  | none =>
    rw [putN_none h,List.map_append,List.nodup_append]
    exact ⟨nd,List.pairwise_singleton ..,fun a ha b hb q=>look_none h (by rw [← (mS hb:b=k),← q];exact ha)⟩
theorem putN_len {f:Fl}{k v w:Nat} (h:look f k=some w):(putN f k v).length=f.length:=by
  have:=congrArg List.length (putN_some (v:=v) h)
  rwa [List.length_map,List.length_map] at this
theorem putN_more {f:Fl}{k v:Nat} (h:look f k=none):(putN f k v).length=f.length+1:=by rw [putN_none h];exact List.length_append
theorem bor_nat {x y:Nat}{H:AH}{Q:V→AH→Prop} (q:Q (.int ((x ||| y:Nat):Int)) H):binV .bor (.int (x:Int)) (.int (y:Int)) H Q:=bin_intI (if_pos (c:=0≤(x:Int)∧0≤(y:Int)) (t:=some (((x ||| y:Nat):Int))) (e:=none) ⟨Int.natCast_nonneg _,Int.natCast_nonneg _⟩) q
theorem band_nat {x y:Nat}{H:AH}{Q:V→AH→Prop} (q:Q (.int ((x &&& y:Nat):Int)) H):binV .band (.int (x:Int)) (.int (y:Int)) H Q:=bin_intI (if_pos (c:=0≤(x:Int)∧0≤(y:Int)) (t:=some (((x &&& y:Nat):Int))) (e:=none) ⟨Int.natCast_nonneg _,Int.natCast_nonneg _⟩) q
structure PSt (H:AH) (P:Nat→Prop) (W:Wk) (F q L:Nat) (s:PS):Prop where
  wi:WI H P W
  fl:H[F]?=some (.dict (dB (flV s.flags)))
  qu:H[q]?=some (qf L s.came)
  ro:H[L]?=some (lv s.rows)
  oF:¬ P F
  oq:¬ P q
  oL:¬ P L
  keys:∀ p∈s.flags,p.1 < W.g0.length
  nd:(s.flags.map (·.1)).Nodup
  few:s.rows.length≤s.flags.length
structure Up (S:List Nat) (H:AH) (P:Nat→Prop) (H':AH) (P':Nat→Prop):Prop where
  kp:Kp S H H'
  up:∀ i,P i→P' i
  new:∀ i,P' i→P i∨H.length≤i
section
variable {H H' H'':AH}{P P' P'':Nat→Prop}{W:Wk}{F q L k v i:Nat}{s:PS}{S T:List Nat}{o:AObj}
theorem Up.refl:Up S H P H P:=⟨.refl,fun _ p=>p,fun _ p=>.inl p⟩
theorem Up.of (k:Kp S H H'):Up S H P H' P:=⟨k,fun _ p=>p,fun _ p=>.inl p⟩
theorem Up.trans (a:Up S H P H' P') (b:Up S H' P' H'' P''):Up S H P H'' P'':=⟨a.kp.then b.kp,fun i p=>b.up i (a.up i p),fun i p=>(b.new i p).elim (a.new i) fun q=>.inr (Nat.le_trans a.kp.len q)⟩
theorem Up.then (a:Up S H P H' P') (b:Kp S H' H''):Up S H P H'' P':=a.trans (.of b)
theorem Up.off (a:Up S H P H' P') (h:H[i]?=some o) (n:¬ P i):¬ P' i:=fun p=>(a.new i p).elim n fun z=>Nat.lt_irrefl _ (Nat.lt_of_lt_of_le (lt_of h) z)
theorem Up.to (a:Up S H P H' P') (h:S ⊆ T):Up T H P H' P':=⟨a.kp.to h,a.up,a.new⟩
theorem Af.u (a:Af H P W H' P'):Up [W.kn,W.lv] H P H' P':=⟨a.kp,a.up,a.new⟩
theorem PSt.len (t:PSt H P W F q L s):s.flags.length≤8:=fl_few t.keys t.wi.n t.nd
theorem PSt.nq (t:PSt H P W F q L s):F≠q:=ne_of t.fl t.qu nofun
theorem PSt.nL (t:PSt H P W F q L s):F≠L:=ne_of t.fl t.ro nofun
theorem PSt.put (t:PSt H P W F q L s) (hk:k < W.g0.length) (kp:Kp [F] H H') (e:H'[F]?=some (.dict (dB (flV (putN s.flags k v))))) (few:s.rows.length≤(putN s.flags k v).length):PSt H' P W F q L ⟨putN s.flags k v,s.rows,s.came⟩ :=
  ⟨t.wi.keep kp fun i m p=>t.oF (mS m▸p),e,kp.at1 t.qu t.nq.symm,kp.at1 t.ro t.nL.symm,t.oF,t.oq,t.oL,putN_keys _ _ _ _ t.keys hk,putN_nd t.nd,few⟩
theorem PSt.old (t:PSt H P W F q L s) (a:Af H P W H' P'):PSt H' P' W F q L s :=
  ⟨a.wi,a.at t.wi t.fl t.oF,a.at t.wi t.qu t.oq,a.at t.wi t.ro t.oL,a.off t.fl t.oF,a.off t.qu t.oq,a.off t.ro t.oL,t.keys,t.nd,t.few⟩
theorem PSt.queue {rows:List Qr}{came:Nat} (t:PSt H P W F q L s) (kp:Kp [q,L] H H') (e:H'[q]?=some (qf L came)) (e2:H'[L]?=some (lv rows)) (few:rows.length≤s.flags.length):PSt H' P W F q L ⟨s.flags,rows,came⟩ :=
  ⟨t.wi.keep kp fun i m p=>(mZ m).elim (fun m=>t.oq (m▸p)) fun m=>t.oL (mS m▸p),kp.at2 t.fl t.nq t.nL,e,e2,t.oF,t.oq,t.oL,t.keys,t.nd,few⟩
end
noncomputable abbrev mk1 (kx:Nat):S:=.ite (.cmp .nin (.l kx) (.l 3)) [.ex (.me (.l 5) .put [(.me (.l 0) .level [(.l kx)]),(.l kx)]),
      .asg (.sb (.l 3) (.l kx)) (.c (.int 0))] []
noncomputable abbrev mk2 (kx:Nat):S:=.asg (.sb (.l 3) (.l kx)) (.bin .bor (.sub (.l 3) (.l kx)) (.l 7))
theorem mark_ok {d kx k m F q L:Nat}{loc:Loc}{rest:List S}{H:AH}{P:Nat→Prop}{W:Wk}{s:PS}{N:Loc→AH→Prop}{R:V→AH→Prop}{Ct:Loc→AH→Prop}
    (l0:loc[0]?=some (some (.inst .Walk W.w))) (l3:loc[3]?=some (some (.ref F))) (l5:loc[5]?=some (some (.inst .RankQueue q))) (l7:loc[7]?=some (some (.int (m:Int)))) (lk:loc[kx]?=some (some (idv k))) (t:PSt H P W F q L s) (hk:k < W.g0.length)
    (hN:∀ H' P',PSt H' P' W F q L (mark W.g s k m)→Up [W.kn,W.lv,F,q,L] H P H' P'→evSs (orc (d+5)) rest loc H' N R Ct) :
    evSs (orc (d+5)) (mk1 kx :: mk2 kx :: rest) loc H N R Ct:=by
  have hn:=t.wi.n
  have mF:F∈[W.kn,W.lv,F,q,L]:=.tail _ (.tail _ (.head _))
  unfold mark at hN
  left
  cases hl:look s.flags k with
  | some v =>
    rw [hl] at hN
    refine fl_nin t.fl t.keys hn hk (congrArg _ hl) (iteB_f rfl ?_)
    left
    refine fl_sub t.fl t.keys hn hk hl ?_
    left
    refine bor_nat ?_
    left
    exact fl_setk t.fl t.keys hn hk t.nd fun H1 k1 e1 _=>hN _ P (t.put hk k1 e1 (Nat.le_trans t.few (Nat.le_of_eq (putN_len hl).symm))) (.of (k1.one mF))
  | none =>
    rw [hl] at hN
    refine fl_nin t.fl t.keys hn hk (congrArg _ hl) (iteB_t rfl ?_)
    have q0:=t.qu
    have w0:=t.wi.fl
    left
    refine level_ok (d:=d) t.wi hk fun H1 P1 a1=>?_
    have t1:=t.old a1
    left
    refine put_ok (d:=d+4) (x:=(lev W.g k,s.came,k)) t1.qu t1.ro (Nat.lt_of_le_of_lt (Nat.le_trans t.few t.len) (by decide)) fun H2 k2 q2 L2=>?_
    have F2:=k2.at2 t1.fl t1.nq t1.nL
    left
    refine fl_setk (v:=0) F2 t.keys hn hk t.nd fun H3 k3 e3 _=>?_
    have hk3:=putN_keys s.flags k 0 _ t.keys hk
    left
    refine fl_sub e3 hk3 hn hk look_put ?_
    left
    refine bor_nat ?_
    left
    refine fl_setk e3 hk3 hn hk (putN_nd t.nd) fun H4 k4 e4 _=>?_
    rw [Nat.zero_or,putN_twice] at e4
    have k34:Kp [F] H2 H4:=k3.then k4
    refine hN _ P1 ⟨(t1.wi.keep k2 fun i m p=>(mZ m).elim (fun m=>t1.oq (m▸p)) fun m=>t1.oL (mS m▸p)).keep k34 fun i m p=>t1.oF (mS m▸p),e4,k34.at1 q2 t1.nq.symm,k34.at1 L2 t1.nL.symm,t1.oF,t1.oq,t1.oL,putN_keys _ _ _ _ t.keys hk,putN_nd t.nd,?_⟩ ⟨?_,a1.up,a1.new⟩
    · show (putQ s.rows (lev W.g k,s.came,k)).length≤(putN s.flags k m).length
      rw [put_len,putN_more hl];exact Nat.succ_le_succ t.few
    · exact ((a1.kp.two (.head _) (.tail _ (.head _))).then (k2.two (.tail _ (.tail _ (.tail _ (.head _)))) (.tail _ (.tail _ (.tail _ (.tail _ (.head _))))))).then (k34.one mF)
noncomputable def PassAt (H:AH) (pv:V) (pf:Nat→Nat):Prop:=(pv = .fn .passed_whole∧pf=id)∨∃ c1 c2 n,pv = .clo [c1,c2]∧pf=passP n∧H[c1]?=some (.cell (some (.int ((2 ^ n:Nat):Int))))∧H[c2]?=some (.cell (some (.int ((2 ^ n - 1:Nat):Int))))
theorem PassAt.keep {H H':AH}{pv:V}{pf:Nat→Nat}{S:List Nat} (X:PassAt H pv pf) (kp:Kp S H H') (hs:∀ i∈S,∀ v,H[i]?≠some (.cell v)):PassAt H' pv pf:=by
  rcases X with X | ⟨c1,c2,n,h1,h2,h3,h4⟩
  · exact .inl X
  · exact .inr ⟨c1,c2,n,h1,h2,kp.at h3 fun m=>hs _ m _ h3,kp.at h4 fun m=>hs _ m _ h4⟩
theorem PassAt.call {H:AH}{pv:V}{pf:Nat→Nat} (X:PassAt H pv pf):isCall pv=true:=X.elim (fun X=>X.1▸rfl) fun ⟨_,_,_,h,_⟩=>h▸rfl
theorem e_var {O:Orc}{k:Nat}{es:List E}{loc:Loc}{x:V}{H:AH}{Q:V→AH→Prop} (h:loc[k]?=some (some x)) (hc:isCall x=true) (q:evEs O es loc H fun vs H=>(∃ f,x = .fn f∧O.fn f vs H Q)∨(∃ cs,x = .clo cs∧O.clo cs vs H Q)):evE O (.var k es) loc H Q:=optK_of h (optK_of rfl ⟨hc,q⟩)
theorem clo_of {d c1 c2:Nat}{a b:V}{H:AH}{Q:V→AH→Prop} (q:evSs ⟨callN d,fun _ _ _ _=>False⟩ b_passed [some a,some b,some (.cel c1),some (.cel c2)] H (fun _ H=>Q .none H) Q fun _ _=>False):(orc d).clo [c1,c2] [a,b] H Q:=⟨⟨rfl,rfl⟩,q⟩
theorem pass_ok {d m:Nat}{ix pv:V}{pf:Nat→Nat}{H:AH}{Q:V→AH→Prop} (X:PassAt H pv pf) (hx:notCel ix=true) (hq:Q (.int (pf m:Int)) H):(∃ f,pv = .fn f∧(orc (d+1)).fn f [.int (m:Int),ix] H Q)∨(∃ cs,pv = .clo cs∧(orc (d+1)).clo cs [.int (m:Int),ix] H Q):=by
  rcases X with ⟨h,e⟩ | ⟨c1,c2,n,h,e,h1,h2⟩
  · subst e
    refine .inl ⟨_,h,?_⟩
    left
    refine call_of rfl rfl rfl rfl ?_
    left
    exact hq
  · refine .inr ⟨_,h,clo_of ?_⟩
    subst e
    unfold passP at hq
    unfold b_passed
    left
    refine e_lc rfl h2 ?_
    refine band_nat ?_
    refine e_lc rfl h2 ?_
    left
    cases hb:m &&& (2 ^ n - 1) == 2 ^ n - 1 with
    | true =>
      rw [hb] at hq
      refine iteB_t (beq_iff_eq.mpr (congrArg Int.ofNat (eq_of_beq hb))) ?_
      left
      refine e_lc rfl h1 ?_
      exact bor_nat hq
    | false =>
      rw [hb] at hq
      refine iteB_f (beq_eq_false_iff_ne.mpr fun q=>Bool.false_ne_true (hb.symm.trans (beq_iff_eq.mpr (Int.ofNat.inj q)))) ?_
      left
      exact hq
theorem all5 {a b c d e:Nat}{p:Nat→Prop} (ha:p a) (hb:p b) (hc:p c) (hd:p d) (he:p e):∀ i∈[a,b,c,d,e],p i:=fC ⟨ha,fC ⟨hb,fC ⟨hc,fC ⟨hd,fC ⟨he,nofun⟩⟩⟩⟩⟩
theorem Kp.old {S T:List Nat}{H0 H H':AH} (a:Kp S H0 H) (b:Kp T H H') (h:∀ i∈T,i < H0.length→i∈S):Kp S H0 H':=(a.trans b).mono fun i hi m=>(mA m).elim id fun m=>h i m hi
structure Pn (H0:AH) (P0:Nat→Prop) (W:Wk) (F Or q L bi:Nat) (begun:List (Nat × Nat)) (pv:V) (pf:Nat→Nat) (s:PS) (order:List Nat) (H:AH) (P:Nat→Prop):Prop extends PSt H P W F q L s where
  ord:H[Or]?=some (.list (order.map idv))
  oO:¬ P Or
  beg:H[bi]?=some (.list (begun.map fun p=>.tup [idv p.1,.int (p.2:Int)]))
  oB:¬ P bi
  pass:PassAt H pv pf
  up:∀ i,P0 i→P i
  new:∀ i,P i→P0 i∨H0.length≤i
  kp:Kp [W.kn,W.lv] H0 H
  hF:H0.length≤F
  hO:H0.length≤Or
  hq:H0.length≤q
  hL:H0.length≤L
  nOL:Or≠L
  nBO:bi≠Or
  nBL:bi≠L
section
variable {H0 H H':AH}{P0 P P':Nat→Prop}{W:Wk}{F Or q L bi:Nat}{begun:List (Nat × Nat)}{pv:V}{pf:Nat→Nat}{s s':PS}{order:List Nat}
theorem lt_no {i j:Nat}{p:Prop} (h:j≤i) (h2:i < j):p:=absurd h (Nat.not_le.mpr h2)
theorem Pn.after (t:Pn H0 P0 W F Or q L bi begun pv pf s order H P) (z:PSt H' P' W F q L s') (u:Up [W.kn,W.lv,F,q,L] H P H' P'):Pn H0 P0 W F Or q L bi begun pv pf s' order H' P':=by
  obtain ⟨ks,k1,_⟩:=t.wi.kno
  obtain ⟨ls,k2,_⟩:=t.wi.lvl
  have no:∀ {i:Nat}{l:List V},H[i]?=some (.list l)→¬ P i→i≠L→i∉[W.kn,W.lv,F,q,L]:=fun {i l} h n hl m =>
    all5 (p:=(i≠·)) (fun z=>n (z▸t.wi.pkn)) (fun z=>n (z▸t.wi.plv)) (ne_of h t.fl nofun) (ne_of h t.qu nofun) hl i m rfl
  have nc:∀ {i:Nat}{o:AObj},H[i]?=some o→(∀ v,o≠.cell v)→∀ v,H[i]?≠some (.cell v):=fun h n v z=>n v (Option.some.inj (h.symm.trans z))
  exact ⟨z,u.kp.at t.ord (no t.ord t.oO t.nOL),u.off t.ord t.oO,u.kp.at t.beg (no t.beg t.oB t.nBL),u.off t.beg t.oB,t.pass.keep u.kp (all5 (nc k1 nofun) (nc k2 nofun) (nc t.fl nofun) (nc t.qu nofun) (nc t.ro nofun)),
    fun i p=>u.up i (t.up i p),fun i p=>(u.new i p).elim (t.new i) fun q=>.inr (Nat.le_trans t.kp.len q),t.kp.old u.kp (all5 (fun _=>.head _) (fun _=>.tail _ (.head _)) (lt_no t.hF) (lt_no t.hq) (lt_no t.hL)),t.hF,t.hO,t.hq,t.hL,t.nOL,t.nBO,t.nBL⟩
theorem Pn.push (t:Pn H0 P0 W F Or q L bi begun pv pf s order H P) {k:Nat} (kp:Kp [Or] H H') (e:H'[Or]?=some (.list ((order++[k]).map idv))):Pn H0 P0 W F Or q L bi begun pv pf s (order++[k]) H' P :=
  ⟨⟨t.wi.keep kp fun i m p=>t.oO (mS m▸p),kp.at1 t.fl (ne_of t.fl t.ord nofun),kp.at1 t.qu (ne_of t.qu t.ord nofun),kp.at1 t.ro t.nOL.symm,t.oF,t.oq,t.oL,t.keys,t.nd,t.few⟩,e,t.oO,kp.at1 t.beg t.nBO,t.oB,
    t.pass.keep kp (fun i m v h=>by rw [mS m,t.ord] at h;cases h),t.up,t.new,t.kp.old kp fun i m h=>lt_no t.hO (mS m▸h),t.hF,t.hO,t.hq,t.hL,t.nOL,t.nBO,t.nBL⟩
theorem Pn.old (t:Pn H0 P0 W F Or q L bi begun pv pf s order H P) (a:Af H P W H' P'):Pn H0 P0 W F Or q L bi begun pv pf s order H' P':=t.after (t.toPSt.old a) ⟨a.kp.two (.head _) (.tail _ (.head _)),a.up,a.new⟩
end
noncomputable def meas (s:PS):Nat:=2 * (8 - s.flags.length)+s.rows.length
theorem mark_look {g:Gr}{s:PS}{k j m:Nat} (h:∃ v,look s.flags k=some v):∃ v,look (mark g s j m).flags k=some v:=by
  obtain ⟨v,h⟩:=h
  have key':∀ x,∃ v,look (putN s.flags j x) k=some v:=fun x=>by
    have:∀ (f:Fl) (v:Nat),look f k=some v→∃ v,look (putN f j x) k=some v:=by
      intro f
      induction f with
      | nil=>intro v q;cases q
      | cons a r ih =>
        obtain ⟨y,z⟩:=a
        intro v q
        have e1:putN ((y,z) :: r) j x=if (y == j)=true then (y,x) :: r else (y,z) :: putN r j x:=rfl
        have e2:∀ (z:Nat) (r:Fl),look ((y,z) :: r) k=if (y == k)=true then some z else look r k:=fun _ _=>rfl
        rw [e2] at q
        rw [e1]
        split
        · rw [e2];split
          · exact ⟨_,rfl⟩
          · rename_i c;rw [if_neg c] at q;exact ⟨_,q⟩
        · rw [e2];split
          · exact ⟨_,rfl⟩
          · rename_i c;rw [if_neg c] at q;exact ih v q
    exact this _ v h
  unfold mark
  cases look s.flags j with
  | none=>exact key' m
  | some w=>exact key' (w ||| m)
theorem mark_meas {g:Gr}{s:PS}{j m:Nat} (h:(mark g s j m).flags.length≤8):meas (mark g s j m)≤meas s:=by
  unfold mark at h ⊢
  cases hl:look s.flags j with
  | none =>
    rw [hl] at h
    unfold meas
    dsimp only at h ⊢
    rw [putN_more hl] at h ⊢
    rw [put_len]
    exact Nat.le_trans (Nat.le_of_eq (show _+(_+1)=_+1+_ from (Nat.add_right_comm _ 1 _).symm)) (Nat.add_le_add_right ((by decide:∀ n,n < 8→2 * (8 - (n+1))+1≤2 * (8 - n)) _ h) _)
  | some w =>
    unfold meas
    dsimp only
    rw [putN_len hl]
    exact Nat.le_refl _
noncomputable def turnP (g:Gr) (pf:Nat→Nat) (k:Nat) (s:PS) (p:Nat):PS:=match pf ((look s.flags k).getD 0) with
  | 0=>s
  | m=>mark g s p m
theorem spread_cons {g:Gr}{pf:Nat→Nat}{k p:Nat}{s:PS}{r:List Nat}:spread g pf k s (p :: r)=spread g pf k (turnP g pf k s p) r:=by
  unfold turnP
  conv=>lhs;unfold spread
  cases pf ((look s.flags k).getD 0)<;>rfl
theorem turnP_of {g:Gr}{pf:Nat→Nat}{k p:Nat}{s:PS}{A:PS→Prop} (h0:A s) (h1:∀ m,A (mark g s p m)):A (turnP g pf k s p):=by
  unfold turnP
  cases pf ((look s.flags k).getD 0)
  · exact h0
  · exact h1 _
theorem swap_mem {rows:List Qr}{i j:Nat}{p:Qr→Prop} (hi:i < rows.length) (hj:j < rows.length) (h:∀ r∈rows,p r):∀ r∈swapQ rows i j,p r:=by
  intro r m
  unfold swapQ at m
  have g:∀ {k:Nat},k < rows.length→p (rows.getD k q0):=fun {k} hk=>by
    have:rows.getD k q0=rows[k]:=by simp [List.getD,hk]
    rw [this];exact h _ (List.getElem_mem hk)
  rcases List.mem_or_eq_of_mem_set m with m | m
  · rcases List.mem_or_eq_of_mem_set m with m | m
    · exact h r m
    · rw [m];exact g hj
  · rw [m];exact g hi
theorem sift_mem {p:Qr→Prop}:∀ (n:Nat) (rows:List Qr) (a:Nat),a < rows.length→(∀ r∈rows,p r)→∀ r∈siftUp n rows a,p r
  | 0,rows,a,_,h=>h
  | n+1,rows,0,_,h=>h
  | n+1,rows,a+1,ha,h=>by
    unfold siftUp
    split
    · exact h
    · exact sift_mem n _ _ (by rw [swapQ_len];omega) (swap_mem (by omega) ha h)
theorem sink_mem {p:Qr→Prop}:∀ (n:Nat) (rows:List Qr) (a:Nat),a < rows.length→(∀ r∈rows,p r)→∀ r∈sinkQ n rows a,p r
  | 0,rows,a,_,h=>h
  | n+1,rows,a,ha,h=>by
    unfold sinkQ
    dsimp only
    have h1:=least1_lt (below:=2 * a+2) (least1_lt (below:=2 * a+1) ha)
    split
    · exact h
    · exact sink_mem n _ _ (by rw [swapQ_len];exact h1) (swap_mem h1 ha h)
theorem take_mem {p:Qr→Prop}{rows:List Qr} (h0:rows≠[]) (h:∀ r∈rows,p r):(∀ r∈(takeQ rows).2,p r)∧∃ r∈rows,(takeQ rows).1=r.2.2:=by
  have hpos:=List.length_pos_iff.mpr h0
  have g:∀ {k:Nat},k < rows.length→rows.getD k q0∈rows:=fun {k} hk=>by
    have:rows.getD k q0=rows[k]:=by simp [List.getD,hk]
    rw [this];exact List.getElem_mem hk
  unfold takeQ
  cases hd:rows.dropLast with
  | nil=>exact ⟨(fun r m=>by cases m),_,g hpos,rfl⟩
  | cons a r =>
    refine ⟨?_,_,g hpos,rfl⟩
    refine sink_mem 20 _ 0 (by simp) fun x m=>?_
    rcases List.mem_or_eq_of_mem_set m with m | m
    · exact h x (List.dropLast_subset rows (by rw [hd];exact m))
    · rw [m];exact h _ (g (by omega))
noncomputable def RowsOk (n:Nat) (s:PS):Prop:=∀ r∈s.rows,r.2.2 < n∧∃ v,look s.flags r.2.2=some v
theorem rows_mark {g:Gr}{n j m:Nat}{s:PS} (h:RowsOk n s) (hj:j < n):RowsOk n (mark g s j m):=by
  have up:∀ r∈s.rows,r.2.2 < n∧∃ v,look (mark g s j m).flags r.2.2=some v:=fun r hr=>⟨(h r hr).1,mark_look (h r hr).2⟩
  unfold RowsOk
  cases hl:look s.flags j with
  | none =>
    have e:mark g s j m=⟨putN s.flags j m,putQ s.rows (lev g j,s.came,j),s.came+1⟩:=by unfold mark;rw [hl]
    rw [e] at up ⊢
    unfold putQ
    refine sift_mem 20 _ _ (by simp) fun r hr=>?_
    rcases mA hr with hr | hr
    · exact up r hr
    · rw [mS hr]
      exact ⟨hj,m,look_put⟩
  | some w =>
    have e:mark g s j m=⟨putN s.flags j (w ||| m),s.rows,s.came⟩:=by unfold mark;rw [hl]
    rw [e] at up ⊢
    exact up
theorem rows_spread {g:Gr}{pf:Nat→Nat}{k n:Nat}:∀ (l:List Nat) (s:PS),RowsOk n s→(∀ p∈l,p < n)→RowsOk n (spread g pf k s l)
  | [],s,h,_=>h
  | p :: r,s,h,hl=>by
    rw [spread_cons]
    exact rows_spread r _ (turnP_of (A:=RowsOk n) h fun m=>rows_mark h (hl p (List.mem_cons_self ..))) fun q m=>hl q (List.mem_cons_of_mem _ m)
theorem rows_all {g:Gr}{n:Nat}:∀ (l:List (Nat × Nat)) (s:PS),RowsOk n s→(∀ p∈l,p.1 < n)→RowsOk n (markAll g s l)
  | [],s,h,_=>h
  | p :: r,s,h,hl=>rows_all r _ (rows_mark h (hl p (List.mem_cons_self ..))) fun q m=>hl q (List.mem_cons_of_mem _ m)
theorem drop_head {α:Type}{xs:List α}{p:Nat}{x:α}{r:List α} (h:xs.drop p=x :: r):xs[p]?=some x∧xs.drop (p+1)=r :=
  ⟨by have:(xs.drop p)[0]?=some x:=by rw [h];rfl
      rwa [List.getElem?_drop] at this,by rw [← List.tail_drop,h];rfl⟩
theorem drop_nil {α:Type}{xs:List α}{p:Nat} (h:xs.drop p=[]):xs[p]?=none:=List.getElem?_eq_none (List.drop_eq_nil_iff.mp h)
theorem map_some {α β:Type}{xs:List α}{p:Nat}{x:α}{f:α→β} (h:xs[p]?=some x):(xs.map f)[p]?=some (f x):=by rw [List.getElem?_map,h];rfl
theorem map_none {α β:Type}{xs:List α}{p:Nat}{f:α→β} (h:xs[p]?=none):(xs.map f)[p]?=none:=by rw [List.getElem?_map,h];rfl
theorem dct_k {vs:List (V × V)}{kvs:List (K × V)}{H:AH}{Q:V→AH→Prop} (h:putKs vs []=some kvs) (q:∀ H',Kp [] H H'→H'[H.length]?=some (.dict kvs)→H'.length=H.length+1→Q (.ref H.length) H'):newDict vs H Q:=optK_of h (q _ .app get_new (List.length_append (as:=H)))
theorem rq_init_ok {d i:Nat}{H:AH}{Q:V→AH→Prop} (h:H[i]?=some (.flds .RankQueue [])) (hq:∀ H',Kp [i] H H'→H'[i]?=some (qf H.length 0)→H'[H.length]?=some (lv [])→Q .none H'):callN (d+1) .rq_init [.inst .RankQueue i] H Q:=by
  have n:=(ne_old h).symm
  refine call_of rfl rfl rfl rfl ?_
  left
  refine new_k (lim_of rfl) fun H1 k1 e1 l1=>?_
  left
  refine setf_k (k1.at0 h) (.head _) (Nat.zero_lt_succ _) fun H2 k2 h2 l2=>?_
  left
  refine setf_k h2 (.tail _ (.head _)) (show 1 < 100 by decide) fun H3 k3 h3 l3=>?_
  left
  exact hq _ ((k1.nil.then k2).then k3) h3 (k3.at1 (k2.at1 e1 n) n)
noncomputable abbrev ploc (W:Wk) (bi F Or q:Nat) (pv:V) (c6 c7 c8 c9:Option V):Loc:=[some (.inst .Walk W.w),some (.ref bi),some pv,some (.ref F),some (.ref Or),some (.inst .RankQueue q),c6,c7,c8,c9]
noncomputable abbrev spB:List S:=[.asg (.v 7) (.var 2 [(.sub (.l 3) (.l 6)),(.l 8)]),
      .ite (.cmp .eq (.l 7) (.c (.int 0))) [.cont] [],mk1 9,mk2 9]
noncomputable abbrev bgB:List S:=[mk1 6,mk2 6]
noncomputable abbrev pnT:T:=.cmp .gt (.me (.l 5) .many []) (.c (.int 0))
noncomputable abbrev pnB:List S:=[.asg (.v 6) (.me (.l 5) .take []),.ex (.app (.l 4) (.l 6)),.for (.tup [(.v 8),(.v 9)]) (.enum (.attr (.me (.l 0) .walked [(.l 6)]) .parents)) spB]
noncomputable abbrev encM (p:Nat × Nat):V:=.tup [idv p.1,.int (p.2:Int)]
section
variable {d k pl F Or q L bi M:Nat}{H0:AH}{P0:Nat→Prop}{W:Wk}{begun:List (Nat × Nat)}{pv:V}{pf:Nat→Nat}{N:Loc→AH→Prop}{R:V→AH→Prop}
theorem sp_all {order:List Nat}{s1:PS} (hk:k < W.g0.length) (hpv:notCel pv=true)
    (hN:∀ c7 c8 c9 H P,notCelO c7=true→notCelO c8=true→notCelO c9=true→Pn H0 P0 W F Or q L bi begun pv pf s1 order H P→meas s1≤M→N (ploc W bi F Or q pv (some (idv k)) c7 c8 c9) H) :
    ∀ (l:List Nat) (n p:Nat) (s:PS) c7 c8 c9 H P,(par W.g k).drop p=l→l.length < n→notCelO c7=true→notCelO c8=true→notCelO c9=true→Pn H0 P0 W F Or q L bi begun pv pf s order H P→(∃ v,look s.flags k=some v)→H[pl]?=some (.list ((par W.g k).map idv))→P pl→meas s≤M→spread W.g pf k s l=s1 →
    forTurns (.enum pl) (asg (orc (d+5)) (.tup [.v 8,.v 9])) (evSs (orc (d+5)) spB) n p (ploc W bi F Or q pv (some (idv k)) c7 c8 c9) H N R:=by
  intro l
  induction l with
  | nil =>
    intro n p s c7 c8 c9 H P hd hl n7 n8 n9 t hin hpl ppl hm hs
    cases n with
    | zero=>exact absurd hl (Nat.lt_irrefl _)
    | succ n =>
    subst hs
    exact for_s (lst_of hpl (optB_no (map_none (drop_nil hd)) (hN _ _ _ _ _ n7 n8 n9 t hm)))
  | cons j r ih =>
    intro n p s c7 c8 c9 H P hd hl n7 n8 n9 t ⟨v,hv⟩ hpl ppl hm hs
    cases n with
    | zero=>exact absurd hl (Nat.not_lt_zero _)
    | succ n =>
    obtain ⟨e,hd'⟩:=drop_head hd
    have hl':=Nat.lt_of_succ_lt_succ hl
    have hj:j < W.g0.length:=Nat.lt_trans (t.wi.wf' hk j (List.mem_of_getElem? e)) hk
    rw [spread_cons] at hs
    have ht:turnP W.g pf k s j=(match pf v with | 0=>s | m=>mark W.g s j m):=by unfold turnP;rw [hv];rfl
    refine for_s (lst_of hpl (optB_of (map_some e) ?_))
    left
    refine e_var rfl t.pass.call ?_
    left
    refine fl_sub t.fl t.keys t.wi.n hk hv ?_
    left
    refine pass_ok (d:=d+4) t.pass rfl ?_
    left
    cases hp:pf v with
    | zero =>
      rw [hp] at ht
      refine iteB_t rfl ?_
      left
      exact ih n (p+1) s _ _ _ H P hd' hl' rfl rfl rfl t ⟨v,hv⟩ hpl ppl hm (by rw [ht] at hs;exact hs)
    | succ m =>
      rw [hp] at ht
      refine iteB_f (beq_eq_false_iff_ne.mpr fun z=>Nat.succ_ne_zero m (Int.ofNat.inj z)) (ss_n ?_)
      refine mark_ok (rest:=[]) (m:=m+1) rfl rfl rfl rfl rfl t.toPSt hj fun H1 P1 z u=>ss_n ?_
      obtain ⟨ks,k1,_⟩:=t.wi.kno
      obtain ⟨ls,k2,_⟩:=t.wi.lvl
      exact ih n (p+1) _ _ _ _ H1 P1 hd' hl' rfl rfl rfl (t.after z u) (mark_look ⟨v,hv⟩) (u.kp.at hpl fun m=>all5 (p:=(pl≠·)) (ne_of hpl k1 nofun) (ne_of hpl k2 nofun) (fun z=>t.oF (Eq.subst (motive:=P) z ppl)) (fun z=>t.oq (Eq.subst (motive:=P) z ppl)) (fun z=>t.oL (Eq.subst (motive:=P) z ppl)) pl m rfl) (u.up _ ppl)
        (Nat.le_trans (mark_meas z.len) hm) (by rw [ht] at hs;exact hs)
theorem bg_loop {order:List Nat}{s1:PS}{c8 c9:Option V} (hlt:∀ p∈begun,p.1 < W.g0.length)
    (hN:∀ c6 c7 H P,notCelO c6=true→notCelO c7=true→Pn H0 P0 W F Or q L bi begun pv pf s1 order H P→meas s1≤M→N (ploc W bi F Or q pv c6 c7 c8 c9) H) :
    ∀ (l:List (Nat × Nat)) (n p:Nat) (s:PS) c6 c7 H P,begun.drop p=l→l.length < n→notCelO c6=true→notCelO c7=true→Pn H0 P0 W F Or q L bi begun pv pf s order H P→meas s≤M→markAll W.g s l=s1 →
    forTurns (.live bi) (asg (orc (d+5)) (.tup [.v 6,.v 7])) (evSs (orc (d+5)) bgB) n p (ploc W bi F Or q pv c6 c7 c8 c9) H N R:=by
  intro l
  induction l with
  | nil =>
    intro n p s c6 c7 H P hd hl n6 n7 t hm hs
    cases n with
    | zero=>exact absurd hl (Nat.lt_irrefl _)
    | succ n =>
    subst hs
    exact for_s (lst_of t.beg (optB_no (map_none (drop_nil hd)) (hN _ _ _ _ n6 n7 t hm)))
  | cons j r ih =>
    intro n p s c6 c7 H P hd hl n6 n7 t hm hs
    cases n with
    | zero=>exact absurd hl (Nat.not_lt_zero _)
    | succ n =>
    obtain ⟨e,hd'⟩:=drop_head hd
    refine for_s (lst_of t.beg (optB_of (map_some e) ?_))
    refine g_tup rfl (gs_c (g_v n6 (gs_c (g_v n7 (gs_n ?_)))))
    refine mark_ok (rest:=[]) (k:=j.1) (m:=j.2) rfl rfl rfl rfl rfl t.toPSt (hlt j (List.mem_of_getElem? e)) fun H1 P1 z u=>ss_n ?_
    exact ih n (p+1) _ _ _ H1 P1 hd' (Nat.lt_of_succ_lt_succ hl) rfl rfl (t.after z u) (Nat.le_trans (mark_meas z.len) hm) hs
theorem paint_step {g:Gr}{pf:Nat→Nat}{n:Nat}{s:PS}{o:List Nat} (h:s.rows≠[]):paintGo g pf (n+1) s o=paintGo g pf n (spread g pf (takeQ s.rows).1 ⟨s.flags,(takeQ s.rows).2,s.came⟩ (par g (takeQ s.rows).1)) (o++[(takeQ s.rows).1]):=by
  conv=>lhs;unfold paintGo
  cases hr:s.rows with
  | nil=>exact absurd hr h
  | cons a r=>rfl
theorem paint_end {g:Gr}{pf:Nat→Nat}{n:Nat}{s:PS}{o:List Nat} (h:s.rows=[]):paintGo g pf n s o=(o,s.flags):=by
  cases n with
  | zero=>rfl
  | succ n=>unfold paintGo;rw [h]
theorem pn_loop {Rs:List Nat × Fl} (hpv:notCel pv=true)
    (hN:∀ c6 c7 c8 c9 H P s,notCelO c6=true→notCelO c7=true→notCelO c8=true→notCelO c9=true→Pn H0 P0 W F Or q L bi begun pv pf s Rs.1 H P→s.flags=Rs.2→N (ploc W bi F Or q pv c6 c7 c8 c9) H) :
    ∀ (f n:Nat) (s:PS) (o:List Nat) c6 c7 c8 c9 H P,meas s < f→f≤n→o.length+f≤200→notCelO c6=true→notCelO c7=true→notCelO c8=true→notCelO c9=true→Pn H0 P0 W F Or q L bi begun pv pf s o H P→RowsOk W.g0.length s→paintGo W.g pf f s o=Rs →
    whileTurns (evT (orc (d+5)) pnT) (evSs (orc (d+5)) pnB) n (ploc W bi F Or q pv c6 c7 c8 c9) H N R:=by
  intro f
  induction f with
  | zero=>exact fun n s _ _ _ _ _ _ _ h=>absurd h (Nat.not_lt_zero _)
  | succ f ih =>
  intro n s o c6 c7 c8 c9 H P hm hf ho n6 n7 n8 n9 t hr hs
  cases n with
  | zero=>exact absurd hf (Nat.not_succ_le_zero _)
  | succ n =>
  have hl8:=Nat.le_trans t.few t.toPSt.len
  have q0:=t.qu
  refine w_s ?_
  left
  refine many_ok (d:=d+4) t.qu t.ro (rows_lim (Nat.lt_of_le_of_lt hl8 (by decide))) ?_
  left
  by_cases h0:s.rows=[]
  · refine iteB_f (by rw [h0];rfl) ?_
    rw [paint_end h0] at hs
    subst hs
    exact hN _ _ _ _ _ _ s n6 n7 n8 n9 t rfl
  · have hpos:=List.length_pos_iff.mpr h0
    refine iteB_t (decide_eq_true (Int.ofNat_lt.mpr (by rw [List.length_map];exact hpos))) ?_
    rw [paint_step h0] at hs
    obtain ⟨tm1,r0,hr0,tm2⟩:=take_mem (p:=fun r=>r.2.2 < W.g0.length∧∃ v,look s.flags r.2.2=some v) h0 hr
    have tl:=take_len s.rows
    obtain ⟨hk,hin⟩:=hr r0 hr0
    rw [← tm2] at hk hin
    left
    refine take_ok (d:=d+3) t.qu t.ro h0 (Nat.lt_of_le_of_lt hl8 (by decide)) fun H1 k1 a1 b1=>?_
    have t1:=t.after (t.toPSt.queue k1 a1 b1 (Nat.le_trans (Nat.le_of_eq tl) (Nat.le_trans (Nat.sub_le ..) t.few))) (.of (k1.two (.tail _ (.tail _ (.tail _ (.head _)))) (.tail _ (.tail _ (.tail _ (.tail _ (.head _)))))))
    have ord1:=t1.ord
    left
    refine app_k t1.ord (ids_lt (Nat.le_trans (Nat.le_of_add_right_le ho) (by decide))) fun H2 k2 e2 _=>?_
    have t2:=t1.push k2 (e2.trans (congrArg (fun z=>some (AObj.list z)) (List.map_append (f:=idv) (l₁:=o) (l₂:=[(takeQ s.rows).1])).symm))
    have w2:=t2.wi.fl
    left
    refine walked_ok (d:=d+1) t2.wi hk fun v H3 P3 kp X3 up3 new3 ⟨wi,pl,tv,e,f1,f2,p1,p2⟩=>?_
    subst e
    have t3:=t2.old ⟨kp.one (.head _),X3,up3,new3⟩
    left
    have hm1:meas ⟨s.flags,(takeQ s.rows).2,s.came⟩ < f:=by unfold meas at hm ⊢;dsimp only;omega
    refine sp_all (d:=d) (M:=meas ⟨s.flags,(takeQ s.rows).2,s.came⟩) hk hpv (fun c7 c8 c9 H4 P4 m7 m8 m9 t4 hm4=>?_) _ _ 0 _ _ _ _ _ _ rfl (Nat.lt_of_le_of_lt (X3.deg' hk) (by decide)) n7 n8 n9 t3 hin f2 p2 (Nat.le_refl _) rfl
    refine ss_n ?_
    exact ih n _ _ _ _ _ _ _ _ (Nat.lt_of_le_of_lt hm4 hm1) (Nat.le_of_succ_le_succ hf) (by rw [List.length_append];exact Nat.le_trans (Nat.le_of_eq (by show o.length+1+f=o.length+(f+1);omega)) ho) rfl m7 m8 m9 t4 (rows_spread _ _ tm1 fun p m=>Nat.lt_trans (X3.wf' hk p m) hk) hs
end
theorem painted_ok {d bi:Nat}{H:AH}{P:Nat→Prop}{W:Wk}{begun:List (Nat × Nat)}{pv:V}{pf:Nat→Nat}{Q:V→AH→Prop} (X:WI H P W) (hb:H[bi]?=some (.list (begun.map encM))) (hbP:¬ P bi) (hlen:begun.length≤100) (hlt:∀ p∈begun,p.1 < W.g0.length)
    (hpv:notCel pv=true) (pass:PassAt H pv pf)
    (hq:∀ H' P' Or F,Af H P W H' P'→H'[Or]?=some (.list ((painted W.g pf begun).1.map idv))→H'[F]?=some (.dict (dB (flV (painted W.g pf begun).2))) →
      ¬ P' Or→¬ P' F→H.length≤Or→H.length≤F→(∀ p∈(painted W.g pf begun).2,p.1 < W.g0.length)→Q (.tup [.ref Or,.ref F]) H'):callN (d+6) .painted [.inst .Walk W.w,.ref bi,pv] H Q:=by
  refine call_of rfl rfl rfl rfl ?_
  left
  refine dct_k rfl fun H1 k1 e1 l1=>?_
  left
  refine new_k (lim_of rfl) fun H2 k2 e2 l2=>?_
  left
  refine rq_init_ok (d:=d+4) get_new fun H3 k3 q3 L3=>?_
  have hl3:(H2++[AObj.flds Cls.RankQueue []]).length=H2.length+1:=List.length_append
  rw [hl3] at q3 L3
  have k23:Kp [H2.length] H2 H3:=Kp.app.then k3
  have o2:∀ {i:Nat}{o:AObj},H2[i]?=some o→H3[i]?=some o:=fun h=>k23.at1 h (ne_old h)
  have l02:H.length≤H2.length:=Nat.le_trans k1.len k2.len
  have k0:Kp [] H H3:=(k1.then k2).old k23 fun i m h=>lt_no l02 (mS m▸h)
  have b3:=k0.at0 hb
  have off:∀ {i:Nat},H.length≤i→¬ P i:=fun {i} h p=>Nat.lt_irrefl _ (Nat.lt_of_lt_of_le (X.bound _ p) h)
  have lb:=lt_of hb
  have t:Pn H P W H.length H1.length H2.length (H2.length+1) bi begun pv pf ⟨[],[],0⟩ [] H3 P :=
    ⟨⟨X.keep k0 nofun,o2 (k2.at0 e1),q3,L3,off (Nat.le_refl _),off l02,off (Nat.le_succ_of_le l02),nofun,List.nodup_nil,Nat.le_refl _⟩,o2 e2,off k1.len,b3,hbP,pass.keep k0 nofun,fun _ p=>p,fun _ p=>.inl p,k0.nil,
      Nat.le_refl _,k1.len,l02,Nat.le_succ_of_le l02,Nat.ne_of_lt (Nat.lt_succ_of_le k2.len),Nat.ne_of_lt (Nat.lt_of_lt_of_le lb k1.len),Nat.ne_of_lt (Nat.lt_succ_of_lt (Nat.lt_of_lt_of_le lb l02))⟩
  left
  refine bg_loop (d:=d) (M:=16) hlt (fun c6 c7 H4 P4 n6 n7 t4 m4=>?_) begun _ 0 _ _ _ _ _ rfl (Nat.lt_of_le_of_lt hlen (by decide)) rfl rfl t (Nat.le_refl _) rfl
  refine ss_c (s_while ?_)
  refine pn_loop (d:=d) hpv (fun c6 c7 c8 c9 H5 P5 s5 _ _ _ _ t5 e5=>?_) 40 fuelWhile _ [] _ _ _ _ _ _ (Nat.lt_of_le_of_lt m4 (by decide)) (show 40≤1000000 by decide) (show 0+40≤200 by decide) n6 n7 rfl rfl t4 (rows_all begun _ nofun hlt) rfl
  left
  exact hq H5 P5 _ _ ⟨t5.kp,t5.wi,t5.up,t5.new⟩ t5.ord (e5▸t5.fl) t5.oO t5.oF t5.hO t5.hF (e5▸t5.keys)
theorem ins_idv {a:Nat} (ha:a < 250):∀ {l:List Nat},(∀ x∈l,x < 250)→ins (idv a) (l.map idv)=(insN a l).map idv
  | [],_=>rfl
  | x :: r,h=>by
    have hx:=h x (List.mem_cons_self ..)
    have e:ltP (idv a) (idv x)=decide (a < x):=idb_lt ha hx
    have e2:ins (idv a) ((x :: r).map idv)=if ltP (idv a) (idv x) then idv a :: idv x :: r.map idv else idv x :: ins (idv a) (r.map idv):=rfl
    have e3:insN a (x :: r)=if Nat.blt a x then a :: x :: r else x :: insN a r:=rfl
    rw [e2,e3,e,ins_idv ha fun y m=>h y (List.mem_cons_of_mem _ m)]
    by_cases q:a < x
    · have:Nat.blt a x=true:=by rw [Nat.blt_eq];exact q
      rw [this];simp [q]
    · have:Nat.blt a x=false:=by rw [Bool.eq_false_iff];rw [ne_eq,Nat.blt_eq];exact q
      rw [this];simp [q]
theorem insN_mem {p:Nat→Prop}{a:Nat} (ha:p a):∀ {l:List Nat},(∀ x∈l,p x)→∀ x∈insN a l,p x
  | [],_,x,m=>by simp [insN] at m;rw [m];exact ha
  | y :: r,h,x,m=>by
    unfold insN at m
    split at m
    · rcases mZ m with m | m
      · rw [m];exact ha
      · exact h x m
    · rcases mZ m with m | m
      · rw [m];exact h y (List.mem_cons_self ..)
      · exact insN_mem ha (fun z hz=>h z (List.mem_cons_of_mem _ hz)) x m
theorem isortN_mem {p:Nat→Prop}:∀ {l:List Nat},(∀ x∈l,p x)→∀ x∈isortN l,p x
  | [],_,x,m=>by cases m
  | y :: r,h,x,m=>insN_mem (h y (List.mem_cons_self ..)) (isortN_mem fun z hz=>h z (List.mem_cons_of_mem _ hz)) x m
theorem isort_idv:∀ {l:List Nat},(∀ x∈l,x < 250)→isort (l.map idv)=(isortN l).map idv
  | [],_=>rfl
  | x :: r,h=>by
    have hr:=fun y m=>h y (List.mem_cons_of_mem x m)
    show ins (idv x) (isort (r.map idv))=(insN x (isortN r)).map idv
    rw [isort_idv hr,ins_idv (h x (List.mem_cons_self ..)) (isortN_mem hr)]
theorem allB:∀ l:List Nat,allBytes (l.map idv)=true
  | []=>rfl
  | x :: r=>allB r
theorem isortN_len:∀ l:List Nat,(isortN l).length=l.length:=by
  have ik:∀ (a:Nat) (l:List Nat),(insN a l).length=l.length+1:=by
    intro a l
    induction l with
    | nil=>rfl
    | cons x r ih=>unfold insN;split<;>simp [ih]
  intro l
  induction l with
  | nil=>rfl
  | cons x r ih=>show (insN x (isortN r)).length=_;rw [ik,ih];rfl
section
variable {O:Orc}{loc:Loc}{H:AH}{Q:V→AH→Prop}{N:Loc→AH→Prop}{R:V→AH→Prop}{Ct:Loc→AH→Prop}
theorem sorted_ids {i:Nat}{l:List Nat} (h:H[i]?=some (.list (l.map idv))) (hl:l.length < 64) (hb:∀ x∈l,x < 250) (hq:∀ H',Kp [] H H'→H'[H.length]?=some (.list ((isortN l).map idv))→H'.length=H.length+1→Q (.ref H.length) H'):sortedV (.ref i) H Q:=by
  refine optK_of h (.inl ⟨⟨?_,Nat.lt_of_le_of_lt (Nat.le_of_eq (List.length_map ..)) hl⟩,?_⟩)
  · rw [allB,Bool.or_true]
  · rw [isort_idv hb]
    exact new_k (ids_lim (Nat.le_of_lt (Nat.lt_of_le_of_lt (Nat.le_of_eq (isortN_len l)) (Nat.lt_trans hl (by decide))))) hq
theorem shl_one {n:Nat} (hn:n < 64) (q:Q (.int ((2 ^ n:Nat):Int)) H):binV .shl (.int 1) (.int (n:Int)) H Q:=by
  refine bin_intI (z:=((2 ^ n:Nat):Int)) ?_ q
  show (if (0:Int)≤1∧(1:Int) < 1000∧0≤(n:Int)∧(n:Int) < 64 then some (1 * 2 ^ (n:Int).toNat) else none)=_
  rw [if_pos ⟨by decide,by decide,Int.natCast_nonneg _,Int.ofNat_lt.mpr hn⟩]
  simp
theorem g_vck {k i:Nat}{x:V}{o:Option V}{L:Loc→AH→Prop} (h:loc[k]?=some (some (.cel i))) (c:H[i]?=some (.cell o)) (q:∀ H',Kp [i] H H'→H'[i]?=some (.cell (some x))→H'.length=H.length→L loc H'):asg O (.vc k) x loc H L:=g_vc h c (q _ (.set (.head _)) (get_set c) List.length_set)
theorem s_defc {k a b i j:Nat}{tb:Bool} (ha:loc[a]?=some (some (.cel i))) (hb:loc[b]?=some (some (.cel j))) (ht:H[0]?=some (.tab tb)) (hk:k < loc.length) (q:∀ H',Kp [0] H H'→H'[0]?=some (.tab true)→H'.length=H.length→N (loc.set k (some (.clo [i,j]))) H'):evS O (.defc k [a,b]) loc H N R Ct:=by
  have c1:celAt loc a=some i:=by unfold celAt;rw [ha];rfl
  have c2:celAt loc b=some j:=by unfold celAt;rw [hb];rfl
  exact optK_of (show [a,b].mapM (celAt loc)=some [i,j] by simp [c1,c2]) (optK_of ht ⟨⟨_,rfl⟩,hk,q _ (.set (.head _)) (get_set ht) List.length_set⟩)
theorem call_hc {d a b:Nat}{f:Fn}{vs:List V}{s:S}{ss:List S}{loc:Loc} (hl:(withDflt (infoOf f) vs).length=(infoOf f).np) (hc:(infoOf f).hc=[a,b]) (hs:startLoc (infoOf f).ns (withDflt (infoOf f) vs)=loc) (hb:(infoOf f).body=s :: ss)
    (q:∀ H',Kp [] H H'→H'[H.length]?=some (.cell none)→H'[H.length+1]?=some (.cell none)→evSs (orc d) (s :: ss) ((loc.set a (some (.cel H.length))).set b (some (.cel (H.length+1)))) H' (fun _ H=>Q .none H) Q fun _ _=>False):callN (d+1) f vs H Q:=by
  refine ⟨hl,?_⟩
  rw [hc,hs,hb]
  have e:(H++[AObj.cell none]).length=H.length+1:=List.length_append
  have n:(H++[AObj.cell none]++[AObj.cell none])[H.length+1]?=some (.cell none):=e▸get_new
  have:=q _ (Kp.app.then .app) (get_app get_new) n
  rw [← e] at this
  exact this
end
noncomputable def begunS:Nat→List (Nat × Nat)→List (Nat × Nat)
  | _,[]=>[]
  | n,x :: r=>(x.2,2 ^ n) :: begunS (n+1) r
theorem begunS_of:∀ (n:Nat) (rk:List (Nat × Nat)),begunOf n (rk.map fun x=>[x.2])=begunS n rk
  | _,[]=>rfl
  | n,x :: r=>congrArg ((x.2,2 ^ n) :: ·) (begunS_of (n+1) r)
theorem begunS_len:∀ (n:Nat) (rk:List (Nat × Nat)),(begunS n rk).length=rk.length
  | _,[]=>rfl
  | n,x :: r=>congrArg Nat.succ (begunS_len (n+1) r)
theorem begunS_mem {P:Nat→Prop}:∀ (n:Nat) (rk:List (Nat × Nat)),(∀ x∈rk,P x.2)→∀ p∈begunS n rk,P p.1
  | _,[],_,p,h=>nomatch h
  | n,x :: r,hP,p,h=>(mZ h).elim (fun h=>h▸hP x (List.mem_cons_self ..)) (begunS_mem (n+1) r (fun y m=>hP y (List.mem_cons_of_mem _ m)) p)
noncomputable abbrev bcB:List S:=[.ex (.ext (.l 4) (.comp (.tup [(.l 0),(.bin .shl (.c (.int 1)) (.l 6))]) 1 (.ex (.l 6)) none))]
theorem bc_loop {O:Orc}{H:AH}{gi B:Nat}{rk T:List (Nat × Nat)}{a0 a2 a3:Option V}{N:Loc→AH→Prop}{R:V→AH→Prop} (hg:H[gi]?=some (.list (rk.map fun x=>V.ref x.1))) (hrs:∀ x∈rk,H[x.1]?=some (.list [idv x.2])) (hl:T.length≤40) (hgB:gi≠B) (hrB:∀ x∈rk,x.1≠B)
    (hN:∀ c5 c6 H',notCelO c5=true→notCelO c6=true→Kp [B] H H'→H'[B]?=some (.list (T.map encM))→N [a0,some (.ref gi),a2,a3,some (.ref B),c5,c6,none,none,none] H') :
    ∀ (l:List (Nat × Nat)) (n p:Nat) (acc:List (Nat × Nat)) c5 c6 H',rk.drop p=l→l.length < n→notCelO c5=true→notCelO c6=true→Kp [B] H H'→H'[B]?=some (.list (acc.map encM))→acc.length=p→acc++begunS p l=T →
    forTurns (.enum gi) (asg O (.tup [.v 5,.v 6])) (evSs O bcB) n p [a0,some (.ref gi),a2,a3,some (.ref B),c5,c6,none,none,none] H' N R:=by
  intro l
  induction l with
  | nil =>
    intro n p acc c5 c6 H' hd hn n5 n6 kp hb hp hT
    cases n with
    | zero=>exact absurd hn (Nat.lt_irrefl _)
    | succ n =>
    rw [show begunS p []=[] from rfl,List.append_nil] at hT
    subst hT
    exact for_s (lst_of (kp.at1 hg hgB) (optB_no (map_none (drop_nil hd)) (hN _ _ _ n5 n6 kp hb)))
  | cons x r ih =>
    intro n p acc c5 c6 H' hd hn n5 n6 kp hb hp hT
    cases n with
    | zero=>exact absurd hn (Nat.not_lt_zero _)
    | succ n =>
    obtain ⟨e,hd'⟩:=drop_head hd
    have hx:=List.mem_of_getElem? e
    have hr:=kp.at1 (hrs x hx) (hrB x hx)
    have hacc:acc.length < 40:=Nat.lt_of_lt_of_le (Nat.lt_add_of_pos_right (Nat.succ_pos _)) (Nat.le_trans (Nat.le_of_eq ((List.length_append (as:=acc) (bs:=begunS p (x :: r))).symm.trans (congrArg List.length hT))) hl)
    refine for_s (lst_of (kp.at1 hg hgB) (optB_of (map_some e) ?_))
    left
    refine comp_map [x.2] idv (fun k=>encM (k,2 ^ p)) (fun x=>[some (idv x)]) (fun _=>true) (it_live hr) (fun x _ B q=>.inl ⟨rfl,q⟩) (fun x hx R r=>r) (fun x hx _ R r=>?_) (show 1 < 2000 by decide) ?_
    · left
      refine shl_one (hp▸Nat.lt_trans hacc (by decide)) ?_
      left
      exact r
    refine new_k (lim_of rfl) fun H1 k1 e1 l1=>?_
    refine ext_k (ne_old hb) (k1.at0 hb) e1 ?_ fun H2 k2 e2 l2=>?_
    · rw [List.length_map];exact Nat.le_trans (Nat.succ_le_succ (Nat.le_of_lt hacc)) (by decide)
    left
    refine ih n (p+1) (acc++[(x.2,2 ^ p)]) _ _ H2 hd' (Nat.lt_of_succ_lt_succ hn) rfl rfl ((kp.then k1.nil).then k2) ?_ ?_ ?_
    · rw [e2,List.map_append];rfl
    · rw [List.length_append,hp];rfl
    · rw [List.append_assoc];exact hT
theorem spread_look {g:Gr}{pf:Nat→Nat}{k x:Nat}:∀ (l:List Nat) (s:PS),(∃ v,look s.flags x=some v)→∃ v,look (spread g pf k s l).flags x=some v
  | [],s,h=>h
  | p :: r,s,h=>by
    rw [spread_cons]
    exact spread_look r _ (turnP_of (A:=fun s=>∃ v,look s.flags x=some v) h fun m=>mark_look h)
theorem paint_in {g:Gr}{pf:Nat→Nat}{n:Nat} (hg:∀ k,k < n→∀ p∈par g k,p < n):∀ (f:Nat) (s:PS) (o:List Nat),RowsOk n s→(∀ x∈o,x < n∧∃ v,look s.flags x=some v) →
    (∀ x∈(paintGo g pf f s o).1,x < n∧∃ v,look (paintGo g pf f s o).2 x=some v)∧(paintGo g pf f s o).1.length≤o.length+f
  | 0,s,o,_,h=>⟨h,Nat.le_refl _⟩
  | f+1,s,o,hr,h=>by
    by_cases h0:s.rows=[]
    · rw [paint_end h0];exact ⟨h,by show o.length≤_;omega⟩
    · rw [paint_step h0]
      obtain ⟨t1,r0,hr0,t2⟩:=take_mem (p:=fun r=>r.2.2 < n∧∃ v,look s.flags r.2.2=some v) h0 hr
      obtain ⟨hk,hin⟩:=hr r0 hr0
      rw [← t2] at hk hin
      generalize (takeQ s.rows).1=k at *
      generalize (takeQ s.rows).2=rw0 at *
      obtain ⟨a,b⟩:=paint_in hg f (spread g pf k ⟨s.flags,rw0,s.came⟩ (par g k)) (o++[k]) (rows_spread _ _ t1 (hg k hk)) fun x m=>by
        rcases mA m with m | m
        · exact ⟨(h x m).1,spread_look _ _ (h x m).2⟩
        · rw [mS m];exact ⟨hk,spread_look _ _ hin⟩
      exact ⟨a,by simp at b;omega⟩
theorem par_lt {H:AH}{P:Nat→Prop}{W:Wk} (X:WI H P W):∀ k,k < W.g0.length→∀ p∈par W.g k,p < W.g0.length:=fun k hk p m=>Nat.lt_trans (X.wf' hk p m) hk
theorem painted_in {H:AH}{P:Nat→Prop}{W:Wk} (X:WI H P W) {pf:Nat→Nat}{begun:List (Nat × Nat)} (hlt:∀ p∈begun,p.1 < W.g0.length) :
    (∀ x∈(painted W.g pf begun).1,x < W.g0.length∧∃ v,look (painted W.g pf begun).2 x=some v)∧(painted W.g pf begun).1.length≤40 :=
  have h:=paint_in (pf:=pf) (par_lt X) 40 (markAll W.g ⟨[],[],0⟩ begun) [] (rows_all _ _ nofun hlt) nofun
  ⟨h.1,Nat.le_trans h.2 (Nat.le_of_eq (Nat.zero_add _))⟩
structure Post (H:AH) (P:Nat→Prop) (W:Wk) (H':AH) (P':Nat→Prop):Prop where
  u:Up [W.kn,W.lv,0] H P H' P'
  wi:WI H' P' W
  tab:∃ b,H'[0]?=some (.tab b)
theorem beq_cast {v m:Nat}:((v:Int) == (m:Int))=(some v == some m):=by
  rw [Bool.eq_iff_iff,beq_iff_eq,beq_iff_eq]
  exact ⟨fun h=>congrArg some (Int.ofNat.inj h),fun h=>congrArg Int.ofNat (Option.some.inj h)⟩
theorem best_ok {d gi:Nat}{tb:Bool}{H:AH}{P:Nat→Prop}{W:Wk}{rk:List (Nat × Nat)}{Q:V→AH→Prop} (X:WI H P W) (h0:¬ P 0) (ht:H[0]?=some (.tab tb)) (hg:H[gi]?=some (.list (rk.map fun x=>V.ref x.1))) (hl:rk.length≤40)
    (hrs:∀ x∈rk,H[x.1]?=some (.list [idv x.2])) (hk:∀ x∈rk,x.2 < W.g0.length)
    (hq:∀ H' P' i,Post H P W H' P'→H'[i]?=some (.list ((bestCommon W.g (rk.map fun x=>[x.2])).map idv))→H.length≤i→¬ P' i→Q (.ref i) H') :
    callN (d+7) .best_common [.inst .Walk W.w,.ref gi] H Q:=by
  have h64:rk.length < 64:=Nat.lt_of_le_of_lt hl (by decide)
  have hlr:(rk.map fun x=>V.ref x.1).length≤lim:=Nat.le_trans (Nat.le_of_eq (List.length_map ..)) (Nat.le_trans hl (by decide))
  have pow1:(((2 ^ rk.length:Nat):Int) - 1)=((2 ^ rk.length - 1:Nat):Int):=(Int.natCast_sub (Nat.pow_pos (by decide))).symm
  refine call_hc rfl rfl rfl rfl fun H1 k1 c1 c2=>?_
  have hg1:=k1.at0 hg
  left
  refine len_list hg1 hlr ?_
  rw [List.length_map]
  refine shl_one h64 ?_
  left
  rw [pow1]
  refine g_vck rfl c2 fun H2 k2 c22 l2=>?_
  have gl:=lt_of hg
  have o2:∀ {i:Nat}{o:AObj},i < H.length→H1[i]?=some o→H2[i]?=some o:=fun hi h=>k2.at1 h (Nat.ne_of_lt (Nat.lt_succ_of_lt hi))
  have hg2:=o2 gl hg1
  have c12:=k2.at1 c1 (Nat.ne_of_lt (Nat.lt_succ_self _))
  left
  refine len_list hg2 hlr ?_
  rw [List.length_map]
  refine shl_one h64 ?_
  refine g_vck rfl c12 fun H3 k3 c13 l3=>?_
  have c23:=k3.at1 c22 (Nat.succ_ne_self _)
  have k03:Kp [] H H3:=(k1.old k2 fun i m hi=>lt_no (Nat.le_succ _) (mS m▸hi)).old k3 fun i m hi=>lt_no (Nat.le_refl _) (mS m▸hi)
  left
  refine new_k (lim_of rfl) fun H4 k4 e4 l4=>?_
  have k04:=k03.then k4
  have hg4:=k04.at0 hg
  have c14:=k4.at0 c13
  have c24:=k4.at0 c23
  left
  refine bc_loop (T:=begunS 0 rk) hg4 (fun x m=>k04.at0 (hrs x m)) ((begunS_len 0 rk).symm▸hl) (Nat.ne_of_lt (Nat.lt_of_lt_of_le gl k03.len)) (fun x m=>Nat.ne_of_lt (Nat.lt_of_lt_of_le (lt_of (hrs x m)) k03.len)) (fun c5 c6 H5 n5 n6 k5 e5=>?_) rk _ 0 [] none none H4 rfl (Nat.lt_of_le_of_lt hl (by decide)) rfl rfl .refl e4 rfl rfl
  have k05:Kp [] H H5:=k04.old k5 fun i m hi=>lt_no k03.len (mS m▸hi)
  have nc3:∀ {i:Nat}{o:AObj},H3[i]?=some o→i≠H3.length:=ne_old
  refine ss_c (s_defc (i:=H.length) (j:=H.length+1) rfl rfl (k05.at0 ht) (show 7 < 10 by decide) fun H6 k6 t6 l6=>?_)
  have hpos:=lt_of ht
  have k06:Kp [0] H H6:=k05.nil.then k6
  have X6:=X.keep k06 fun i m p=>h0 (mS m▸p)
  have c16:=k6.at1 (k5.at1 c14 (nc3 c13)) (Nat.ne_of_gt hpos)
  have c26:=k6.at1 (k5.at1 c24 (nc3 c23)) (Nat.succ_ne_zero _)
  have e6:=k6.at1 e5 (Nat.ne_of_gt (Nat.lt_of_lt_of_le hpos k03.len))
  have off:∀ {i:Nat},H.length≤i→¬ P i:=fun {i} h p=>Nat.lt_irrefl _ (Nat.lt_of_lt_of_le (X.bound _ p) h)
  have fl6:=X6.fl
  have hkb:=begunS_mem (P:=(· < W.g0.length)) 0 rk hk
  left
  refine painted_ok (begun:=begunS 0 rk) (pf:=passP rk.length) X6 e6 (off k03.len) ((begunS_len 0 rk).symm▸Nat.le_trans hl (by decide)) hkb rfl (.inr ⟨_,_,rk.length,rfl,rfl,c16,c26⟩) fun H7 P7 Or F a7 ho hf oo of lo lf hkeys=>?_
  have t7:=a7.at X6 t6 h0
  have c27:=a7.at X6 c26 (off (Nat.le_succ _))
  obtain ⟨hin,hol⟩:=painted_in X6 (pf:=passP rk.length) hkb
  have hbc:bestCommon W.g (rk.map fun x=>[x.2])=isortN ((painted W.g (passP rk.length) (begunS 0 rk)).1.filter fun k=>look (painted W.g (passP rk.length) (begunS 0 rk)).2 k == some (2 ^ rk.length - 1)):=by
    unfold bestCommon
    rw [List.length_map,begunS_of]
  rw [hbc] at hq
  revert ho hf hkeys hin hol hq
  generalize painted W.g (passP rk.length) (begunS 0 rk)=pr
  intro hq ho hf hkeys hin hol
  left
  refine comp_map pr.1 idv idv (fun x=>[some (idv x)]) (fun k=>look pr.2 k == some (2 ^ rk.length - 1)) (it_live ho) (fun x _ B q=>.inl ⟨rfl,q⟩) (fun x hx R r=>?_) (fun x hx _ R r=>?_) (Nat.lt_of_le_of_lt hol (by decide)) ?_
  · obtain ⟨hx1,v,hv⟩:=hin x hx
    left
    refine fl_sub hf hkeys X.n hx1 hv ?_
    refine e_lc rfl c27 ?_
    left
    rw [beq_cast]
    exact hv▸r
  · left
    exact r
  have hfl:=Nat.le_trans (List.length_filter_le (fun k=>look pr.2 k == some (2 ^ rk.length - 1)) pr.1) hol
  refine new_k (ids_lim (Nat.le_trans hfl (by decide))) fun H8 k8 e8 l8=>?_
  refine sorted_ids e8 (Nat.lt_of_le_of_lt hfl (by decide)) (fun x m=>X.kkb (hin x (List.mem_filter.mp m).1).1) fun H9 k9 e9 l9=>?_
  have k79:=k8.then k9
  have l08:=Nat.le_trans k06.len (Nat.le_trans a7.kp.len k8.len)
  have X9:=a7.wi.keep k79 nofun
  refine hq _ P7 _ ⟨⟨((k06.one (.tail _ (.tail _ (.head _)))).then (a7.kp.two (.head _) (.tail _ (.head _)))).then k79.nil,a7.up,fun i p=>(a7.new i p).elim .inl fun z=>.inr (Nat.le_trans k06.len z)⟩,X9,_,k79.at0 t7⟩ e9 l08 fun p=>Nat.lt_irrefl _ (Nat.lt_of_lt_of_le (a7.wi.bound _ p) k8.len)
theorem Post.pre {H H1 H':AH}{P P':Nat→Prop}{W:Wk} (k:Kp [] H H1) (p:Post H1 P W H' P'):Post H P W H' P':=⟨⟨k.nil.then p.u.kp,p.u.up,fun i q=>(p.u.new i q).elim .inl fun z=>.inr (Nat.le_trans k.len z)⟩,p.wi,p.tab⟩
theorem merge_bases_ok {d a b:Nat}{tb:Bool}{H:AH}{P:Nat→Prop}{W:Wk}{Q:V→AH→Prop} (X:WI H P W) (h0:¬ P 0) (ht:H[0]?=some (.tab tb)) (ha:a < W.g0.length) (hb:b < W.g0.length)
    (hq:∀ H' P' i,Post H P W H' P'→H'[i]?=some (.list ((mergeBases W.g a b).map idv))→H.length≤i→¬ P' i→Q (.ref i) H'):callN (d+8) .merge_bases [.inst .Walk W.w,idv a,idv b] H Q:=by
  have fl:=X.fl
  refine call_of rfl rfl rfl rfl ?_
  left
  refine new_k (lim_of rfl) fun H1 k1 e1 l1=>?_
  left
  refine new_k (lim_of rfl) fun H2 k2 e2 l2=>?_
  left
  refine new_k (lim_of rfl) fun H3 k3 e3 l3=>?_
  left
  have k03:=(k1.then k2).then k3
  refine best_ok (rk:=[(H.length,a),(H1.length,b)]) (X.keep k03 nofun) h0 (k03.at0 ht) e3 (show 2≤40 by decide) (fC ⟨k3.at0 (k2.at0 e1),fC ⟨k3.at0 e2,nofun⟩⟩) (fC ⟨ha,fC ⟨hb,nofun⟩⟩) fun H' P' i p hi li ni=>?_
  exact hq H' P' i (p.pre k03) hi (Nat.le_trans k03.len li) ni
section
variable {O:Orc}{H:AH}{Q:V→AH→Prop}{B:Bool→AH→Prop}{U:AH→Prop}
theorem count_ok {Or F n m:Nat}{order:List Nat}{flags:Fl}{a0 a1 a2 a5:Option V} (ho:H[Or]?=some (.list (order.map idv))) (hf:H[F]?=some (.dict (dB (flV flags))))
    (hk:∀ p∈flags,p.1 < n) (hn:n≤8) (hin:∀ x∈order,x < n∧∃ v,look flags x=some v) (hl:order.length≤40)
    (hq:∀ H',Kp [] H H'→Q (.int ((order.filter fun x=>look flags x == some m).length:Int)) H') :
    evE O (.len (.comp (.l 0) 1 (.ex (.l 3)) (some (.cmp .eq (.sub (.l 5) (.l 0)) (.c (.int (m:Int))))))) [a0,a1,a2,some (.ref Or),some (.ref F),a5] H Q:=by
  left
  refine comp_map order idv idv (fun x=>[some (idv x)]) (fun x=>look flags x == some m) (it_live ho) (fun x _ B q=>.inl ⟨rfl,q⟩) (fun x hx R r=>?_) (fun x hx _ R r=>?_) (Nat.lt_of_le_of_lt hl (by decide)) ?_
  · obtain ⟨hx1,v,hv⟩:=hin x hx
    left
    refine fl_sub hf hk hn hx1 hv ?_
    left
    rw [beq_cast]
    exact hv▸r
  · left
    exact r
  have hfl:=ids_lim (Nat.le_trans (Nat.le_trans (List.length_filter_le (fun x=>look flags x == some m) order) hl) (by decide))
  refine new_k hfl fun H1 k1 e1 _=>?_
  refine len_list e1 hfl ?_
  rw [List.length_map]
  exact hq H1 k1
theorem list_two {A:Nat × Nat→Prop}{x y:Nat × Nat} (hx:A x) (hy:A y):∀ p∈[x,y],A p:=fC ⟨hx,fC ⟨hy,nofun⟩⟩
theorem ahead_behind_ok {d a b:Nat}{tb:Bool}{P:Nat→Prop}{W:Wk} (X:WI H P W) (h0:¬ P 0) (ht:H[0]?=some (.tab tb)) (ha:a < W.g0.length) (hb:b < W.g0.length)
    (hq:∀ H' P',Post H P W H' P'→Q (.tup [.int ((aheadBehind W.g a b).1:Int),.int ((aheadBehind W.g a b).2:Int)]) H'):callN (d+7) .ahead_behind [.inst .Walk W.w,idv a,idv b] H Q:=by
  have fl:=X.fl
  have hlt:∀ p∈[(a,1),(b,2)],p.1 < W.g0.length:=list_two ha hb
  unfold aheadBehind at hq
  refine call_of rfl rfl rfl rfl ?_
  left
  refine new_k (lim_of rfl) fun H1 k1 e1 l1=>?_
  have X1:=X.keep k1 nofun
  obtain ⟨hin,hol⟩:=painted_in (pf:=id) X1 hlt
  left
  refine painted_ok (d:=d) (begun:=[(a,1),(b,2)]) (pf:=id) X1 e1 X.fresh (show 2≤100 by decide) hlt rfl (.inl ⟨rfl,rfl⟩) fun H2 P2 Or F a2 ho hf oo of lo lf hkeys=>?_
  dsimp only at hq
  revert hq ho hf hkeys hin hol
  generalize painted W.g id [(a,1),(b,2)]=pr
  intro hq hin hol ho hf hkeys
  refine g_tup rfl (gs_c (g_v rfl (gs_c (g_v rfl (gs_n ?_)))))
  refine ss_c (s_asg ?_)
  refine count_ok (m:=1) ho hf hkeys X.n hin hol fun H3 k3=>?_
  refine g_v rfl (ss_c (s_ret (e_tup (es_c (e_l rfl rfl (es_c ?_))))))
  refine count_ok (m:=2) (k3.at0 ho) (k3.at0 hf) hkeys X.n hin hol fun H4 k4=>?_
  left
  exact hq H4 P2 (Post.pre k1 ⟨⟨(a2.kp.two (.head _) (.tail _ (.head _))).then (k3.then k4).nil,a2.up,a2.new⟩,a2.wi.keep (k3.then k4) nofun,_,k4.at0 (k3.at0 (a2.at X1 (k1.at0 ht) h0))⟩)
noncomputable def seV (l:List Nat):List (Nat × V):=l.map fun k=>(k,V.bool true)
theorem seV_lookup (l:List Nat) (k:Nat):((seV l).lookup k).isSome=l.contains k:=by
  induction l with
  | nil=>rfl
  | cons a r ih =>
    show (((a,V.bool true) :: seV r).lookup k).isSome=_
    rw [List.lookup_cons,List.contains_cons]
    cases h:k == a with
    | true=>rfl
    | false=>simpa using ih
theorem seV_keys {n:Nat}{l:List Nat} (hl:∀ x∈l,x < n):∀ p∈seV l,p.1 < n:=fun p m=>by
  obtain ⟨q,hq,rfl⟩:=List.mem_map.mp m
  exact hl q hq
theorem se_nin {i k:Nat}{l:List Nat} (h:H[i]?=some (.dict (dB (seV l)))) (hl:∀ x∈l,x < 250) (hk:k < 250) (q:B (!l.contains k) H):cmpB .nin (idv k) (.ref i) H B:=dB_nin h (seV_keys hl) hk (seV_lookup l k▸q)
theorem se_setk {i k:Nat}{l:List Nat} (h:H[i]?=some (.dict (dB (seV l)))) (hl:∀ x∈l,x < 250) (hk:k < 250) (hn:l.contains k=false) (hlen:l.length < 1000) (q:∀ H',Kp [i] H H'→H'[i]?=some (.dict (dB (seV (l++[k]))))→H'.length=H.length→U H'):setI (.ref i) (idv k) (.bool true) H U:=by
  refine dB_setk h (seV_keys hl) hk (Nat.lt_of_le_of_lt (Nat.le_of_eq (List.length_map ..)) hlen) fun H' kp e=>q H' kp ?_
  have z:=seV_lookup l k
  rw [hn] at z
  rw [e,putA_keys (Option.not_isSome_iff_eq_none.mp (by rw [z];exact Bool.false_ne_true))]
  unfold seV
  rw [List.map_append];rfl
theorem mem_app {A:Nat→Prop}{l:List Nat}{k:Nat} (h:∀ x∈l,A x) (hk:A k):∀ x∈l++[k],A x:=fun x m=>(mA m).elim (h x) fun m=>mS m▸hk
theorem onceN_len:∀ (l seen:List Nat),(onceN seen l).length≤l.length
  | [],_=>Nat.le_refl _
  | k :: r,seen=>by
    unfold onceN
    split
    · have:=onceN_len r seen;simp;omega
    · have:=onceN_len r (k :: seen);simp;omega
theorem onceN_ext:∀ (l s1 s2:List Nat),(∀ x,s1.contains x=s2.contains x)→onceN s1 l=onceN s2 l
  | [],_,_,_=>rfl
  | k :: r,s1,s2,h=>by
    unfold onceN
    rw [h k]
    split
    · exact onceN_ext r s1 s2 h
    · rw [onceN_ext r (k :: s1) (k :: s2) fun x=>by rw [List.contains_cons,List.contains_cons,h x]]
theorem onceN_mem:∀ (l seen:List Nat) (x:Nat),x∈onceN seen l→x∈l
  | [],_,x,h=>by cases h
  | k :: r,seen,x,h=>by
    unfold onceN at h
    split at h
    · exact List.mem_cons_of_mem _ (onceN_mem r seen x h)
    · rcases mZ h with h | h
      · rw [h];exact List.mem_cons_self ..
      · exact List.mem_cons_of_mem _ (onceN_mem r _ x h)
noncomputable abbrev woB:List S:=[.ite (.cmp .nin (.l 3) (.l 1)) [.asg (.sb (.l 1) (.l 3)) (.c (.bool true)),.ex (.app (.l 2) (.l 3))] []]
theorem wo_loop {H0:AH}{L D F:Nat}{ks res:List Nat}{N:Loc→AH→Prop}{R:V→AH→Prop} (hL:H0[L]?=some (.list (ks.map idv))) (hb:∀ x∈ks,x < 250) (hD:H0.length≤D) (hF:H0.length≤F) (nDF:D≠F)
    (hN:∀ c H',Kp [] H0 H'→H'[F]?=some (.list (res.map idv))→N [some (.ref L),some (.ref D),some (.ref F),c] H') :
    ∀ (l:List Nat) (n p:Nat) (seen found:List Nat) c H,ks.drop p=l→l.length < n→notCelO c=true→Kp [] H0 H→H[D]?=some (.dict (dB (seV seen)))→H[F]?=some (.list (found.map idv))→(∀ x∈seen,x < 250)→seen.length+l.length≤40→found.length+l.length≤40→found++onceN seen l=res →
    forTurns (.live L) (asg O (.v 3)) (evSs O woB) n p [some (.ref L),some (.ref D),some (.ref F),c] H N R:=by
  intro l
  induction l with
  | nil =>
    intro n p seen found c H hd hn nc kp e1 e2 hs b1 b2 hr
    cases n with
    | zero=>exact absurd hn (Nat.lt_irrefl _)
    | succ n =>
    rw [show onceN seen []=[] from rfl,List.append_nil] at hr
    subst hr
    exact for_s (lst_of (kp.at0 hL) (optB_no (map_none (drop_nil hd)) (hN _ _ kp e2)))
  | cons k r ih =>
    intro n p seen found c H hd hn nc kp e1 e2 hs b1 b2 hr
    cases n with
    | zero=>exact absurd hn (Nat.not_lt_zero _)
    | succ n =>
    obtain ⟨e,hd'⟩:=drop_head hd
    have hk:=hb k (List.mem_of_getElem? e)
    have hn':=Nat.lt_of_succ_lt_succ hn
    have hon:onceN seen (k :: r)=if seen.contains k then onceN seen r else k :: onceN (k :: seen) r:=rfl
    rw [hon] at hr
    refine for_s (lst_of (kp.at0 hL) (optB_of (map_some e) ?_))
    left
    refine se_nin e1 hs hk ?_
    cases hc:seen.contains k with
    | true =>
      rw [hc] at hr
      refine iteB_f rfl ?_
      left
      exact ih n (p+1) seen found _ H hd' hn' rfl kp e1 e2 hs (Nat.le_of_succ_le b1) (Nat.le_of_succ_le b2) hr
    | false =>
      rw [hc] at hr
      refine iteB_t rfl ?_
      left
      refine se_setk e1 hs hk hc (Nat.lt_of_le_of_lt (Nat.le_of_add_right_le b1) (by decide)) fun H2 k2 e3 _=>?_
      have e4:=k2.at1 e2 nDF.symm
      left
      refine app_k e4 (ids_lt (Nat.le_trans (Nat.le_of_add_right_le b2) (by decide))) fun H3 k3 e5 _=>?_
      left
      have b3:∀ {l:List Nat},l.length+(k :: r).length≤40→(l++[k]).length+r.length≤40:=fun {l} h=>by
        rw [List.length_append]
        exact Nat.le_trans (Nat.le_of_eq ((Nat.add_assoc ..).trans (congrArg _ (Nat.add_comm ..)))) h
      refine ih n (p+1) (seen++[k]) (found++[k]) _ H3 hd' hn' rfl ((kp.old k2 fun i m hi=>lt_no hD (mS m▸hi)).old k3 fun i m hi=>lt_no hF (mS m▸hi)) (k3.at1 e3 nDF) (e5.trans (by rw [List.map_append];rfl)) (mem_app hs hk) (b3 b1) (b3 b2) ?_
      rw [List.append_assoc,onceN_ext r (seen++[k]) (k :: seen) fun x=>by simp [List.contains_eq_mem,or_comm]]
      exact hr
theorem walked_once_ok {d L:Nat}{l:List Nat} (hL:H[L]?=some (.list (l.map idv))) (hb:∀ x∈l,x < 250) (hl:l.length≤40)
    (hq:∀ H' i,Kp [] H H'→H'[i]?=some (.list ((onceN [] l).map idv))→H.length≤i→Q (.ref i) H'):callN (d+1) .walked_once [.ref L] H Q:=by
  refine call_of rfl rfl rfl rfl ?_
  left
  refine dct_k rfl fun H1 k1 e1 l1=>?_
  left
  refine new_k (lim_of rfl) fun H2 k2 e2 l2=>?_
  have hL2:=(k1.then k2).at0 hL
  left
  refine wo_loop (res:=onceN [] l) hL hb (Nat.le_refl _) k1.len (Nat.ne_of_lt (lt_of e1)) (fun c H3 k3 e3=>?_) l _ 0 [] [] none H2 rfl (Nat.lt_of_le_of_lt hl (by decide)) rfl (k1.then k2) (k2.at0 e1) e2 nofun ((Nat.zero_add _).symm▸hl) ((Nat.zero_add _).symm▸hl) rfl
  left
  exact hq H3 _ k3 e3 k1.len
theorem ones_ok {L:Nat}{l:List Nat}{loc:Loc}{U:List V→AH→Prop} (hL:H[L]?=some (.list (l.map idv))) (hl:l.length≤40)
    (hq:∀ H' (rk:List (Nat × Nat)),Kp [] H H'→rk.map (·.2)=l→(∀ x∈rk,H'[x.1]?=some (.list [idv x.2]))→U (rk.map fun x=>V.ref x.1) H') :
    compTurns (.live L) 1 (fun _ H Q=>Q true H) (fun o=>evE O (.lst [.l 0]) (o++loc)) fuelFor 0 [] H U:=by
  suffices h:∀ (r:List Nat) (n p:Nat) (rk:List (Nat × Nat)) (H':AH),l.drop p=r→r.length < n→Kp [] H H'→rk.map (·.2)++r=l→(∀ x∈rk,H'[x.1]?=some (.list [idv x.2]))→compTurns (.live L) 1 (fun _ H Q=>Q true H) (fun o=>evE O (.lst [.l 0]) (o++loc)) n p (rk.map fun x=>V.ref x.1) H' U from
    h l 2000 0 [] H rfl (Nat.lt_of_le_of_lt hl (by decide)) .refl rfl nofun
  intro r
  induction r with
  | nil =>
    intro n p rk H' hd hn kp hr hk
    cases n with
    | zero=>exact absurd hn (Nat.lt_irrefl _)
    | succ n =>
    rw [List.append_nil] at hr
    exact lst_of (kp.at0 hL) (optB_no (map_none (drop_nil hd)) (hq H' rk kp hr hk))
  | cons k r ih =>
    intro n p rk H' hd hn kp hr hk
    cases n with
    | zero=>exact absurd hn (Nat.not_lt_zero _)
    | succ n =>
    obtain ⟨e,hd'⟩:=drop_head hd
    refine lst_of (kp.at0 hL) (optB_of (map_some e) (.inl ⟨rfl,iteB_t rfl ?_⟩))
    left
    refine new_k (lim_of rfl) fun H1 k1 e1 _=>⟨?_,?_⟩
    · rw [List.length_map,← List.length_map (f:=(·.2))]
      exact Nat.lt_of_le_of_lt (Nat.le_trans (Nat.le_add_right _ _) (Nat.le_of_eq (List.length_append.symm.trans (congrArg List.length hr)))) (Nat.lt_of_le_of_lt hl (by decide))
    have z:(rk++[(H'.length,k)]).map (fun x=>V.ref x.1)=rk.map (fun x=>V.ref x.1)++[V.ref H'.length]:=List.map_append
    rw [← z]
    refine ih n (p+1) (rk++[(H'.length,k)]) H1 hd' (Nat.lt_of_succ_lt_succ hn) (kp.then k1) ?_ fun x m=>(mA m).elim (fun m=>k1.at0 (hk x m)) fun m=>mS m▸e1
    rw [List.map_append,List.append_assoc];exact hr
theorem merge_many_ok {d gi:Nat}{tb:Bool}{l:List Nat}{P:Nat→Prop}{W:Wk} (X:WI H P W) (h0:¬ P 0) (ht:H[0]?=some (.tab tb)) (hg:H[gi]?=some (.list (l.map idv))) (hl:l.length≤40) (hlt:∀ x∈l,x < W.g0.length)
    (hq:∀ H' P' i,Post H P W H' P'→H'[i]?=some (.list ((mergeMany W.g l).map idv))→H.length≤i→¬ P' i→Q (.ref i) H'):callN (d+8) .merge_bases_many [.inst .Walk W.w,.ref gi] H Q:=by
  refine call_of rfl rfl rfl rfl ?_
  left
  refine new_k (lim_of rfl) fun H1 k1 e1 l1=>?_
  have X1:=X.keep k1 nofun
  have hg1:=k1.at0 hg
  have fl1:=X1.fl
  cases l with
  | nil =>
    refine eq_empty hg1 e1 rfl (iteB_t rfl ?_)
    left
    refine new_k (lim_of rfl) fun H2 k2 e2 l2=>?_
    have k02:=k1.then k2
    exact hq H2 P _ ⟨.of k02.nil,X.keep k02 nofun,_,k02.at0 ht⟩ e2 k1.len X1.fresh
  | cons a r =>
    refine eq_empty hg1 e1 rfl (iteB_f rfl ?_)
    left
    refine ones_ok hg1 hl fun H2 rk k2 hr hk=>?_
    have hrl:rk.length≤40:=Nat.le_trans (Nat.le_of_eq ((List.length_map ..).symm.trans (congrArg List.length hr))) hl
    refine new_k (Nat.le_trans (Nat.le_of_eq (List.length_map ..)) (Nat.le_trans hrl (by decide))) fun H3 k3 e3 l3=>?_
    left
    have k03:=(k1.then k2).then k3
    have hm:mergeMany W.g (a :: r)=bestCommon W.g (rk.map fun x=>[x.2]):=(show mergeMany W.g (a :: r)=bestCommon W.g ((a :: r).map fun k=>[k]) from rfl).trans (by rw [← hr,List.map_map];rfl)
    rw [hm] at hq
    exact best_ok (X.keep k03 nofun) h0 (k03.at0 ht) e3 hrl (fun x m=>k3.at0 (hk x m)) (fun x m=>hlt _ (hr▸List.mem_map_of_mem m)) fun H' P' i p hi li ni=>hq H' P' i (p.pre k03) hi (Nat.le_trans k03.len li) ni
end
theorem idb_beq {i j:Nat} (hi:i < 250) (hj:j < 250):(idb i == idb j)=(i == j):=by
  rw [Bool.eq_iff_iff,beq_iff_eq,beq_iff_eq]
  exact ⟨idb_inj hi hj,congrArg idb⟩
structure An (H0:AH) (P0:Nat→Prop) (W:Wk) (S Wt:Nat) (sl wt:List Nat) (H:AH) (P:Nat→Prop):Prop where
  wi:WI H P W
  se:H[S]?=some (.dict (dB (seV sl)))
  wa:H[Wt]?=some (.list (wt.map idv))
  oS:¬ P S
  oW:¬ P Wt
  ltS:∀ x∈sl,x < W.g0.length
  nd:sl.Nodup
  ltW:∀ x∈wt,x < W.g0.length
  few:wt.length≤sl.length
  u:Up [W.kn,W.lv] H0 P0 H P
  hS:H0.length≤S
  hW:H0.length≤Wt
section
variable {H0 H H':AH}{P0 P P':Nat→Prop}{W:Wk}{S Wt k:Nat}{sl wt wt':List Nat}
theorem Up.old {S T:List Nat} (a:Up S H0 P0 H P) (b:Kp T H H') (h:∀ i∈T,i < H0.length→i∈S):Up S H0 P0 H' P:=⟨a.kp.old b h,a.up,a.new⟩
theorem An.len (t:An H0 P0 W S Wt sl wt H P):sl.length≤8:=Nat.le_trans (nodup_len _ _ t.nd t.ltS) t.wi.n
theorem An.after (t:An H0 P0 W S Wt sl wt H P) (a:Af H P W H' P'):An H0 P0 W S Wt sl wt H' P' :=
  ⟨a.wi,a.at t.wi t.se t.oS,a.at t.wi t.wa t.oW,a.off t.se t.oS,a.off t.wa t.oW,t.ltS,t.nd,t.ltW,t.few,t.u.trans a.u,t.hS,t.hW⟩
theorem An.setW (t:An H0 P0 W S Wt sl wt H P) (kp:Kp [Wt] H H') (e:H'[Wt]?=some (.list (wt'.map idv))) (h1:∀ x∈wt',x < W.g0.length) (h2:wt'.length≤sl.length):An H0 P0 W S Wt sl wt' H' P :=
  ⟨t.wi.keep kp fun i m p=>t.oW (mS m▸p),kp.at1 t.se (ne_of t.se t.wa nofun),e,t.oS,t.oW,t.ltS,t.nd,h1,h2,t.u.old kp fun i m h=>lt_no t.hW (mS m▸h),t.hS,t.hW⟩
theorem An.setS (t:An H0 P0 W S Wt sl wt H P) (hk:k < W.g0.length) (hn:k∉sl) (kp:Kp [S] H H') (e:H'[S]?=some (.dict (dB (seV (sl++[k]))))):An H0 P0 W S Wt (sl++[k]) wt H' P:=by
  refine ⟨t.wi.keep kp fun i m p=>t.oS (mS m▸p),e,kp.at1 t.wa (ne_of t.wa t.se nofun),t.oS,t.oW,mem_app t.ltS hk,?_,t.ltW,Nat.le_trans t.few (Nat.le_trans (Nat.le_add_right _ _) (Nat.le_of_eq List.length_append.symm)),t.u.old kp fun i m h=>lt_no t.hS (mS m▸h),t.hS,t.hW⟩
  rw [List.nodup_append]
  exact ⟨t.nd,List.pairwise_singleton ..,fun a ha b hb q=>hn (mS hb▸q▸ha)⟩
end
noncomputable abbrev anB:List S:=[.ite (.cmp .eq (.l 7) (.l 1)) [.ret (.c (.bool true))] [],
      .ite (.and (.cmp .nin (.l 7) (.l 4)) (.cmp .gt (.me (.l 0) .level [(.l 7)]) (.l 3))) [.asg (.sb (.l 4) (.l 7)) (.c (.bool true)),
      .ex (.app (.l 5) (.l 7))] []]
noncomputable abbrev awT:T:=.cmp .ne (.l 5) (.lst [])
noncomputable abbrev awB:List S:=[.asg (.v 6) (.pop (.l 5)),.for (.v 7) (.ex (.attr (.me (.l 0) .walked [.l 6]) .parents)) anB]
noncomputable abbrev aloc (W:Wk) (one other least S Wt:Nat) (c6 c7:Option V):Loc:=[some (.inst .Walk W.w),some (idv one),some (idv other),some (.int (least:Int)),some (.ref S),some (.ref Wt),c6,c7]
noncomputable def amz (sl wt:List Nat):Nat:=2 * (8 - sl.length)+wt.length
section
variable {d one other least S Wt k pl M:Nat}{H0:AH}{P0:Nat→Prop}{W:Wk}{N:Loc→AH→Prop}{R:V→AH→Prop}
theorem an_row {res:Option (List Nat × List Nat)} (ho:one < W.g0.length) (hk:k < W.g0.length)
    (hR:res=none→∀ H' P' sl' wt',An H0 P0 W S Wt sl' wt' H' P'→R (.bool true) H')
    (hN:∀ H' P' sl' wt' c7',notCelO c7'=true→An H0 P0 W S Wt sl' wt' H' P'→res=some (sl'.reverse,wt')→amz sl' wt'≤M→N (aloc W one other least S Wt (some (idv k)) c7') H') :
    ∀ (l:List Nat) (n p:Nat) (sl wt:List Nat) c7 H P,(par W.g k).drop p=l→l.length < n→notCelO c7=true→An H0 P0 W S Wt sl wt H P→H[pl]?=some (.list ((par W.g k).map idv))→P pl→amz sl wt≤M→ancRow W.g one least l sl.reverse wt=res →
    forTurns (.live pl) (asg (orc (d+5)) (.v 7)) (evSs (orc (d+5)) anB) n p (aloc W one other least S Wt (some (idv k)) c7) H N R:=by
  intro l
  induction l with
  | nil =>
    intro n p sl wt c7 H P hd hl n7 t hpl ppl hm hs
    cases n with
    | zero=>exact absurd hl (Nat.lt_irrefl _)
    | succ n=>exact for_s (lst_of hpl (optB_no (map_none (drop_nil hd)) (hN _ _ _ _ _ n7 t hs.symm hm)))
  | cons j r ih =>
    intro n p sl wt c7 H P hd hl n7 t hpl ppl hm hs
    cases n with
    | zero=>exact absurd hl (Nat.not_lt_zero _)
    | succ n =>
    obtain ⟨e,hd'⟩:=drop_head hd
    have hl':=Nat.lt_of_succ_lt_succ hl
    have hj:j < W.g0.length:=par_lt t.wi k hk j (List.mem_of_getElem? e)
    have X:=t.wi
    have e0:ancRow W.g one least (j :: r) sl.reverse wt=if j == one then none else if !sl.reverse.contains j && Nat.blt least (lev W.g j) then ancRow W.g one least r (j :: sl.reverse) (wt++[j]) else ancRow W.g one least r sl.reverse wt:=rfl
    rw [e0,show sl.reverse.contains j=sl.contains j by simp [List.contains_eq_mem]] at hs
    have sb:∀ x∈sl,x < 250:=fun x m=>X.kkb (t.ltS x m)
    refine for_s (lst_of hpl (optB_of (map_some e) ?_))
    left
    rw [idb_beq (X.kkb hj) (X.kkb ho)]
    cases hjo:j == one with
    | true =>
      rw [hjo] at hs
      refine iteB_t rfl ?_
      left
      exact hR hs.symm _ _ _ _ t
    | false =>
      rw [hjo] at hs
      refine iteB_f rfl ?_
      left
      refine se_nin t.se sb (X.kkb hj) ?_
      cases hc:sl.contains j with
      | true =>
        rw [hc] at hs
        refine iteB_f rfl (iteB_f rfl ?_)
        left
        exact ih n (p+1) sl wt _ H P hd' hl' rfl t hpl ppl hm hs
      | false =>
        rw [hc] at hs
        have fl:=X.fl
        refine iteB_t rfl ?_
        left
        refine level_ok (d:=d) X hj fun H1 P1 a1=>?_
        have t1:=t.after a1
        have hpl1:H1[pl]?=_:=a1.kp.at2 hpl (fun z=>(X.kno.elim fun _ h=>ne_of hpl h.1 nofun) z) (fun z=>(X.lvl.elim fun _ h=>ne_of hpl h.1 nofun) z)
        have ppl1:=a1.up _ ppl
        left
        refine iteB_d (fun hlt=>?_) fun hlt=>?_
        · rw [show Nat.blt least (lev W.g j)=true from Nat.ble_eq_true_of_le (Int.ofNat_lt.mp hlt)] at hs
          have hns:j∉sl:=fun q=>by rw [List.contains_iff_mem.mpr q] at hc;cases hc
          have l8:=t1.len
          left
          refine se_setk t1.se sb (X.kkb hj) hc (Nat.lt_of_le_of_lt l8 (by decide)) fun H2 k2 e2 _=>?_
          have t2:=t1.setS hj hns k2 e2
          have wa2:=t2.wa
          left
          refine app_k wa2 (ids_lt (Nat.le_trans t1.few (Nat.le_trans l8 (by decide)))) fun H3 k3 e3 _=>?_
          have h1:(sl++[j]).length=sl.length+1:=List.length_append
          have h2:(wt++[j]).length=wt.length+1:=List.length_append
          have t3:=t2.setW (wt':=wt++[j]) k3 (e3.trans (by rw [List.map_append];rfl)) (mem_app t.ltW hj) (by rw [h1,h2];exact Nat.succ_le_succ t1.few)
          have l3:=t3.len
          left
          refine ih n (p+1) _ _ _ H3 P1 hd' hl' rfl t3 (k3.at1 (k2.at1 hpl1 fun z=>t1.oS (z▸ppl1)) fun z=>t1.oW (z▸ppl1)) ppl1 (Nat.le_trans ?_ hm) ?_
          · unfold amz;rw [h1] at l3 ⊢;rw [h2];omega
          · rw [List.reverse_append];exact hs
        · rw [show Nat.blt least (lev W.g j)=false from Bool.eq_false_iff.mpr fun q=>hlt (Int.ofNat_lt.mpr (Nat.le_of_ble_eq_true q))] at hs
          left
          exact ih n (p+1) sl wt _ H1 P1 hd' hl' rfl t1 hpl1 ppl1 hm hs
theorem an_loop {Rb:Bool} (ho:one < W.g0.length) (hR:Rb=true→∀ H' P',Up [W.kn,W.lv] H0 P0 H' P'→WI H' P' W→R (.bool true) H')
    (hN:Rb=false→∀ loc H' P',Up [W.kn,W.lv] H0 P0 H' P'→WI H' P' W→N loc H') :
    ∀ (f n:Nat) (sl wt:List Nat) c6 c7 H P,amz sl wt < f→f≤n→notCelO c6=true→notCelO c7=true→An H0 P0 W S Wt sl wt H P→ancGo W.g one least f sl.reverse wt=Rb →
    whileTurns (evT (orc (d+5)) awT) (evSs (orc (d+5)) awB) n (aloc W one other least S Wt c6 c7) H N R:=by
  intro f
  induction f with
  | zero=>exact fun n _ _ _ _ _ _ h=>absurd h (Nat.not_lt_zero _)
  | succ f ih =>
  intro n sl wt c6 c7 H P hm hf n6 n7 t hs
  cases n with
  | zero=>exact absurd hf (Nat.not_succ_le_zero _)
  | succ n =>
  refine w_s ?_
  left
  refine new_k (lim_of rfl) fun H1 k1 e1 _=>?_
  have t1:=t.after (Af.mem (.refl t.wi) k1)
  rcases List.eq_nil_or_concat wt with hw | ⟨w0,k,hw⟩
  · subst hw
    refine ne_empty t1.wa e1 rfl (iteB_f rfl ?_)
    exact hN hs.symm _ _ _ t1.u t1.wi
  · rw [List.concat_eq_append] at hw
    subst hw
    have hwl:(w0++[k]).length=w0.length+1:=List.length_append
    refine ne_empty (r:=false) t1.wa e1 (by rw [List.map_append];exact app_some) (iteB_t rfl ?_)
    have hk:=t1.ltW k (List.mem_append_right _ (.head _))
    have h9:w0.length+1≤sl.length:=hwl▸t1.few
    left
    refine pop_lastk t1.wa (Nat.le_trans (Nat.le_of_succ_le h9) (Nat.le_trans t1.len (by decide))) fun H2 k2 e2 _=>?_
    have t2:=t1.setW k2 e2 (fun x m=>t1.ltW x (List.mem_append_left _ m)) (Nat.le_of_succ_le h9)
    have fl2:=t2.wi.fl
    left
    refine walked_ok (d:=d+1) t2.wi hk fun v H3 P3 kp X3 up3 new3 ⟨wi,pl,tv,e,f1,f2,p1,p2⟩=>?_
    subst e
    have t3:=t2.after ⟨kp.one (.head _),X3,up3,new3⟩
    left
    have hs1:ancGo W.g one least (f+1) sl.reverse (w0++[k])=match ancRow W.g one least (par W.g k) sl.reverse w0 with
      | none=>true
      | some (seen,wait)=>ancGo W.g one least f seen wait:=by
      have e:ancGo W.g one least (f+1) sl.reverse (w0++[k])=match ancRow W.g one least (par W.g ((w0++[k]).getD ((w0++[k]).length - 1) 0)) sl.reverse (w0++[k]).dropLast with
        | none=>true
        | some (seen,wait)=>ancGo W.g one least f seen wait:=by
        cases w0<;>rfl
      rw [e,List.dropLast_concat,show (w0++[k]).getD ((w0++[k]).length - 1) 0=k by simp [List.getD]]
    rw [hs1] at hs
    have hz:amz sl w0 < f:=Nat.lt_of_succ_lt_succ (Nat.lt_of_le_of_lt (by unfold amz;rw [hwl];exact Nat.le_refl _) hm)
    refine an_row (d:=d) (k:=k) (M:=amz sl w0) ho hk (fun er H' P' sl' wt' tz=>?_) (fun H' P' sl' wt' c7' n7' tz er em=>?_) (par W.g k) _ 0 sl w0 c7 H3 P3 rfl (Nat.lt_of_le_of_lt (X3.deg' hk) (by decide)) n7 t3 f2 p2 (Nat.le_refl _) rfl
    · rw [er] at hs
      exact hR hs.symm H' P' tz.u tz.wi
    · rw [er] at hs
      refine ss_n ?_
      exact ih n sl' wt' _ _ H' P' (Nat.lt_of_le_of_lt em hz) (Nat.le_of_succ_le_succ hf) rfl n7' tz hs
theorem is_ancestor_ok {a b:Nat}{H:AH}{P:Nat→Prop}{Q:V→AH→Prop} (X:WI H P W) (ha:a < W.g0.length) (hb:b < W.g0.length)
    (hq:∀ H' P',Af H P W H' P'→Q (.bool (isAnc W.g a b)) H'):callN (d+6) .is_ancestor [.inst .Walk W.w,idv a,idv b] H Q:=by
  have fl:=X.fl
  unfold isAnc at hq
  refine call_of rfl rfl rfl rfl ?_
  left
  rw [idb_beq (X.kkb ha) (X.kkb hb)]
  cases hab:a == b with
  | true =>
    rw [hab] at hq
    refine iteB_t rfl ?_
    left
    exact hq H P (.refl X)
  | false =>
    rw [hab] at hq
    refine iteB_f rfl ?_
    left
    refine level_ok (d:=d) X ha fun H1 P1 a1=>?_
    have fl1:=a1.wi.fl
    left
    refine level_ok (d:=d) a1.wi hb fun H2 P2 a2=>?_
    have a02:=a1.trans a2
    have X2:=a2.wi
    left
    refine iteB_d (fun hle=>?_) fun hle=>?_
    · rw [show Nat.ble (lev W.g b) (lev W.g a)=true from Nat.ble_eq_true_of_le (Int.ofNat_le.mp hle)] at hq
      left
      exact hq H2 P2 a02
    · rw [show Nat.ble (lev W.g b) (lev W.g a)=false from Bool.eq_false_iff.mpr fun q=>hle (Int.ofNat_le.mpr (Nat.le_of_ble_eq_true q))] at hq
      left
      refine dct_k (kvs:=dB (seV [b])) rfl fun H3 k3 e3 l3=>?_
      left
      refine new_k (lim_of rfl) fun H4 k4 e4 l4=>?_
      have k24:=k3.then k4
      have off:∀ {i:Nat},H2.length≤i→¬ P2 i:=fun {i} h p=>Nat.lt_irrefl _ (Nat.lt_of_lt_of_le (X2.bound _ p) h)
      have lb:∀ x∈[b],x < W.g0.length:=fC ⟨hb,nofun⟩
      have t:An H P W H2.length H3.length [b] [b] H4 P2:=⟨X2.keep k24 nofun,k4.at0 e3,e4,off (Nat.le_refl _),off k3.len,lb,List.pairwise_singleton ..,lb,Nat.le_refl _,a02.u.then k24.nil,a02.kp.len,Nat.le_trans a02.kp.len k3.len⟩
      refine g_tup rfl (gs_c (g_v rfl (gs_c (g_v rfl (gs_n (ss_c (s_while ?_)))))))
      refine an_loop (d:=d) (Rb:=ancGo W.g a (lev W.g a) 40 [b] [b]) ha (fun hr H' P' u X'=>?_) (fun hr loc H' P' u X'=>?_) 40 fuelWhile [b] [b] none none H4 P2 (show 15 < 40 by decide) (show 40≤1000000 by decide) rfl rfl t rfl
      · rw [hr] at hq;exact hq H' P' ⟨u.kp,X',u.up,u.new⟩
      · rw [hr] at hq
        left
        exact hq H' P' ⟨u.kp,X',u.up,u.new⟩
end
noncomputable def begP (g:Gr) (l:List Nat):List (Nat × Nat):=l.flatMap fun k=>(par g k).map fun p=>(p,1)
theorem begP_len {H:AH}{P:Nat→Prop}{W:Wk} (X:WI H P W):∀ (l:List Nat),(∀ x∈l,x < W.g0.length)→(begP W.g l).length≤3 * l.length
  | [],_=>Nat.le_refl _
  | k :: r,h=>by
    have ih:=begP_len X r fun x m=>h x (List.mem_cons_of_mem _ m)
    unfold begP at ih ⊢
    rw [List.flatMap_cons,List.length_append,List.length_map,List.length_cons,Nat.mul_succ,Nat.add_comm]
    exact Nat.add_le_add ih (X.deg' (h k (List.mem_cons_self ..)))
noncomputable abbrev inB:List S:=[.ex (.ext (.l 3) (.comp (.tup [(.l 0),(.c (.int 1))]) 1 (.ex (.attr (.me (.l 0) .walked [(.l 4)]) .parents)) none))]
theorem in_loop {d L B:Nat}{ks:List Nat}{T:List (Nat × Nat)}{H0:AH}{P0:Nat→Prop}{W:Wk}{a1:Option V}{N:Loc→AH→Prop}{R:V→AH→Prop} (hL:H0[L]?=some (.list (ks.map idv))) (oL:¬ P0 L) (hB0:B < H0.length) (oB:¬ P0 B) (nLB:L≠B) (hT:T.length≤100) (hlt:∀ x∈ks,x < W.g0.length) (X0:WI H0 P0 W)
    (hN:∀ H' P' c,WI H' P' W→Up [W.kn,W.lv,B] H0 P0 H' P'→H'[B]?=some (.list (T.map encM))→N [some (.inst .Walk W.w),a1,some (.ref L),some (.ref B),c,none] H') :
    ∀ (l:List Nat) (n p:Nat) (acc:List (Nat × Nat)) c H P,ks.drop p=l→l.length < n→notCelO c=true→WI H P W→Up [W.kn,W.lv,B] H0 P0 H P→H[B]?=some (.list (acc.map encM))→acc++begP W.g l=T →
    forTurns (.live L) (asg (orc (d+4)) (.v 4)) (evSs (orc (d+4)) inB) n p [some (.inst .Walk W.w),a1,some (.ref L),some (.ref B),c,none] H N R:=by
  have at0:∀ {H P},Up [W.kn,W.lv,B] H0 P0 H P→H[L]?=some (.list (ks.map idv)):=fun u=>u.kp.at hL fun m=>(mZ m).elim (fun z=>oL (z▸X0.pkn)) fun m=>(mZ m).elim (fun z=>oL (z▸X0.plv)) fun m=>nLB (mS m)
  intro l
  induction l with
  | nil =>
    intro n p acc c H P hd hn nc X u hb hr
    cases n with
    | zero=>exact absurd hn (Nat.lt_irrefl _)
    | succ n =>
    rw [show begP W.g []=[] from rfl,List.append_nil] at hr
    subst hr
    exact for_s (lst_of (at0 u) (optB_no (map_none (drop_nil hd)) (hN _ _ _ X u hb)))
  | cons k r ih =>
    intro n p acc c H P hd hn nc X u hb hr
    cases n with
    | zero=>exact absurd hn (Nat.not_lt_zero _)
    | succ n =>
    obtain ⟨e,hd'⟩:=drop_head hd
    have hk:=hlt k (List.mem_of_getElem? e)
    have fl:=X.fl
    have oB':¬ P B:=fun q=>(u.new B q).elim oB fun z=>Nat.lt_irrefl _ (Nat.lt_of_lt_of_le hB0 z)
    have hr':acc++(par W.g k).map (fun x=>(x,1))++begP W.g r=T:=(List.append_assoc ..).trans hr
    refine for_s (lst_of (at0 u) (optB_of (map_some e) ?_))
    left
    refine walked_ok (d:=d) X hk fun v H1 P1 kp X1 up1 new1 ⟨wi,pl,tv,e,f1,f2,p1,p2⟩=>?_
    subst e
    have hb1:=kp.at1 hb fun z=>oB' (z▸X.pkn)
    have hdeg:=X1.deg' hk
    left
    refine comp_map (par W.g k) idv (fun x=>encM (x,1)) (fun x=>[some (idv x)]) (fun _=>true) (it_live f2) (fun x _ B q=>.inl ⟨rfl,q⟩) (fun x hx R r=>r) (fun x hx _ R r=>?_) (Nat.lt_of_le_of_lt hdeg (by decide)) ?_
    · left
      exact r
    rw [List.filter_eq_self.mpr fun _ _=>rfl]
    have hml:((par W.g k).map fun x=>encM (x,1)).length≤3:=Nat.le_trans (Nat.le_of_eq (List.length_map ..)) hdeg
    refine new_k (Nat.le_trans hml (by decide)) fun H2 k2 e2 l2=>?_
    refine ext_k (ne_old hb1) (k2.at0 hb1) e2 ?_ fun H3 k3 e3 l3=>?_
    · rw [List.length_map]
      refine Nat.le_trans (Nat.add_le_add (Nat.le_trans ?_ hT) hml) (by decide)
      rw [← hr,List.length_append];exact Nat.le_add_right _ _
    have oB1:¬ P1 B:=fun q=>(new1 B q).elim oB' fun z=>Nat.lt_irrefl _ (Nat.lt_of_lt_of_le (lt_of hb) z)
    left
    refine ih n (p+1) _ _ H3 P1 hd' (Nat.lt_of_succ_lt_succ hn) rfl ((X1.keep k2 nofun).keep k3 fun i m p=>oB1 (mS m▸p)) ((u.trans ⟨kp.one (.head _),up1,new1⟩).then (k2.nil.then (k3.one (.tail _ (.tail _ (.head _)))))) ?_ hr'
    rw [e3,List.map_append,List.map_map];rfl
theorem independent_ok {d L:Nat}{tb:Bool}{l:List Nat}{H:AH}{P:Nat→Prop}{W:Wk}{Q:V→AH→Prop} (X:WI H P W) (h0:¬ P 0) (ht:H[0]?=some (.tab tb)) (hL:H[L]?=some (.list (l.map idv))) (hl:l.length≤20) (hlt:∀ x∈l,x < W.g0.length)
    (hq:∀ H' P' i,Post H P W H' P'→H'[i]?=some (.list ((independent W.g l).map idv))→H.length≤i→¬ P' i→Q (.ref i) H'):callN (d+7) .independent [.inst .Walk W.w,.ref L] H Q:=by
  refine call_of rfl rfl rfl rfl ?_
  left
  refine walked_once_ok (d:=d+5) hL (fun x m=>X.kkb (hlt x m)) (Nat.le_trans hl (by decide)) fun H1 i1 k1 e1 l1=>?_
  left
  refine new_k (lim_of rfl) fun H2 k2 e2 l2=>?_
  have k02:=k1.then k2
  have X2:=X.keep k02 nofun
  have hind:independent W.g l=(onceN [] l).filter fun k=>(look (painted W.g id (begP W.g (onceN [] l))).2 k).isNone:=rfl
  rw [hind] at hq
  have hol:=Nat.le_trans (onceN_len l []) hl
  have hom:∀ x∈onceN [] l,x < W.g0.length:=fun x m=>hlt x (onceN_mem l [] x m)
  have i2:=k2.at0 e1
  revert hq hol hom i2
  generalize onceN [] l=ks
  intro hq hol hom i2
  have off:∀ {i:Nat},H.length≤i→¬ P i:=fun {i} h p=>Nat.lt_irrefl _ (Nat.lt_of_lt_of_le (X.bound _ p) h)
  have hbl:(begP W.g ks).length≤60:=Nat.le_trans (begP_len X ks hom) (Nat.mul_le_mul_left 3 hol)
  have hbm:∀ p∈begP W.g ks,p.1 < W.g0.length:=fun p m=>by
    obtain ⟨k,hk,m⟩:=List.mem_flatMap.mp m
    obtain ⟨j,hj,rfl⟩:=List.mem_map.mp m
    exact par_lt X k (hom k hk) j hj
  have n12:=ne_old e1
  left
  refine in_loop (d:=d+2) (T:=begP W.g ks) i2 (off l1) (lt_of e2) (off k1.len) n12 (Nat.le_trans hbl (by decide)) hom X2 (fun H3 P3 c X3 u3 e3=>?_) ks _ 0 [] none H2 P rfl (Nat.lt_of_le_of_lt hol (by decide)) rfl X2 .refl e2 rfl
  have nk:∀ {i:Nat}{o:AObj},H2[i]?=some o→¬ P i→i≠H1.length→H3[i]?=some o:=fun h n z=>u3.kp.at h fun m=>(mZ m).elim (fun z=>n (z▸X2.pkn)) fun m=>(mZ m).elim (fun z=>n (z▸X2.plv)) fun m=>z (mS m)
  have i3:=nk i2 (off l1) n12
  have t3:=nk (k02.at0 ht) h0 (Nat.ne_of_lt (lt_of (k1.at0 ht)))
  have o3:∀ {i:Nat}{o:AObj},H2[i]?=some o→¬ P i→¬ P3 i:=fun h n=>u3.off h n
  have fl3:=X3.fl
  left
  refine painted_ok (d:=d) (pf:=id) X3 e3 (o3 e2 (off k1.len)) (Nat.le_trans hbl (by decide)) hbm rfl (.inl ⟨rfl,rfl⟩) fun H4 P4 Or F a4 ho hf oo of lo lf hkeys=>?_
  revert hq hf hkeys
  generalize painted W.g id (begP W.g ks)=pr
  intro hq hf hkeys
  have i4:=a4.at X3 i3 (o3 i2 (off l1))
  have t4:=a4.at X3 t3 (o3 (k02.at0 ht) h0)
  left
  refine sub_tup (lim_of rfl) rfl ?_
  left
  refine comp_map ks idv idv (fun x=>[some (idv x)]) (fun k=>(look pr.2 k).isNone) (it_live i4) (fun x _ B q=>.inl ⟨rfl,q⟩) (fun x hx R r=>?_) (fun x hx _ R r=>?_) (Nat.lt_of_le_of_lt hol (by decide)) ?_
  · left
    refine fl_nin hf hkeys X.n (hom x hx) rfl ?_
    rw [Option.not_isSome];exact r
  · left
    exact r
  refine new_k (ids_lim (Nat.le_trans (List.length_filter_le ..) (Nat.le_trans hol (by decide)))) fun H5 k5 e5 l5=>?_
  have kb:∀ i∈[W.kn,W.lv,H1.length],i < H.length→i∈[W.kn,W.lv,0]:=fC ⟨fun _=>.head _,fC ⟨fun _=>.tail _ (.head _),fC ⟨lt_no k1.len,nofun⟩⟩⟩
  exact hq H5 P4 _ ⟨⟨((k02.nil.old u3.kp kb).then (a4.kp.two (.head _) (.tail _ (.head _)))).then k5.nil,fun i p=>a4.up i (u3.up i p),fun i p=>(a4.new i p).elim (fun p=>(u3.new i p).elim .inl fun z=>.inr (Nat.le_trans k02.len z)) fun z=>.inr (Nat.le_trans (Nat.le_trans k02.len u3.kp.len) z)⟩,a4.wi.keep k5 nofun,_,k5.at0 t4⟩ e5 (Nat.le_trans k02.len (Nat.le_trans u3.kp.len a4.kp.len)) a4.wi.fresh
noncomputable abbrev kCells:List Nat:=[99,101,108,108,115]
noncomputable abbrev kMixed:List Nat:=[109,105,120,101,100]
noncomputable abbrev kTurn:List Nat:=[116,117,114,110]
noncomputable abbrev nv (k:Nat):V:=.int (k:Int)
noncomputable def dkv (C:Nat) (mx:Int) (t:Nat):List (K × V):=[(.s kCells,.ref C),(.s kMixed,.int mx),(.s kTurn,.int (t:Int))]
noncomputable def DeckI (H:AH) (D C n:Nat):Prop:=∃ (cs:List Int) (mx:Int) (t:Nat),H[D]?=some (.dict (dkv C mx t))∧H[C]?=some (.list (cs.map .int))∧cs.length≤12∧t≤n
section
variable {H H':AH}{D C n m t b:Nat}{mx x y:Int}{Q:V→AH→Prop}{S:List Nat}{L:List V}
theorem DeckI.keep (X:DeckI H D C n) (kp:Kp S H H') (h1:D∉S) (h2:C∉S):DeckI H' D C n:=by
  obtain ⟨cs,mx,t,a,b,c,e⟩:=X
  exact ⟨cs,mx,t,kp.at a h1,kp.at b h2,c,e⟩
theorem DeckI.mem (X:DeckI H D C n) (kp:Kp [] H H'):DeckI H' D C n:=X.keep kp List.not_mem_nil List.not_mem_nil
theorem DeckI.mono (X:DeckI H D C n) (h:n≤m):DeckI H D C m:=by
  obtain ⟨cs,mx,t,a,b,c,e⟩:=X
  exact ⟨cs,mx,t,a,b,c,Nat.le_trans e h⟩
theorem dk_cells (h:H[D]?=some (.dict (dkv C mx t))) (q:Q (.ref C) H):subV (.ref D) (.str kCells) H Q:=sub_dict h rfl rfl rfl q
theorem dk_mixed (h:H[D]?=some (.dict (dkv C mx t))) (q:Q (.int mx) H):subV (.ref D) (.str kMixed) H Q:=sub_dict h rfl rfl rfl q
theorem dk_turn (h:H[D]?=some (.dict (dkv C mx t))) (q:Q (.int t) H):subV (.ref D) (.str kTurn) H Q:=sub_dict h rfl rfl rfl q
theorem mul_l (h:x.natAbs < 2 ^ 60) (q:Q (.int (x * y)) H):binV .mul (.int x) (.int y) H Q:=bin_intI (if_pos (c:=mulOk x y=true) (t:=some (x * y)) (e:=none) ((Bool.or_eq_true ..).mpr (.inl (decide_eq_true h)))) q
theorem mul_r (h:y.natAbs < 2 ^ 60) (q:Q (.int (x * y)) H):binV .mul (.int x) (.int y) H Q:=bin_intI (if_pos (c:=mulOk x y=true) (t:=some (x * y)) (e:=none) ((Bool.or_eq_true ..).mpr (.inr (decide_eq_true h)))) q
theorem mod_of (h:y≠0) (q:Q (.int (Int.fmod x y)) H):binV .mod (.int x) (.int y) H Q:=bin_intI (if_neg (c:=y=0) (t:=none) (e:=some (Int.fmod x y)) h) q
theorem fdiv_of (h:0 < y∧y < 1000) (q:Q (.int (Int.fdiv x y)) H):binV .fdiv (.int x) (.int y) H Q:=bin_intI (if_pos (c:=0 < y∧y < 1000) (t:=some (Int.fdiv x y)) (e:=none) h) q
theorem mod_nat (hb:0 < b) (q:∀ r:Nat,r < b→Q (.int (r:Int)) H):binV .mod (.int x) (.int (b:Int)) H Q:=by
  have hb':0 < (b:Int):=Int.ofNat_lt.mpr hb
  obtain ⟨r,hr⟩:=Int.eq_ofNat_of_zero_le (Int.fmod_nonneg_of_pos x hb')
  have h1:=Int.fmod_lt_of_pos x hb'
  refine mod_of (Int.ne_of_gt hb') ?_
  rw [hr] at h1 ⊢
  exact q r (Int.ofNat_lt.mp h1)
theorem rng_of (h:m≤1000):0≤(m:Int)∧(m:Int)≤1000:=⟨Int.natCast_nonneg _,Int.ofNat_le.mpr h⟩
theorem ints_lim {l:List Nat} (h:l.length≤1000):(l.map nv).length≤lim:=Nat.le_trans (Nat.le_of_eq (List.length_map ..)) (Nat.le_trans h (by decide))
theorem rng_some {p:Nat} (h:p < m):((List.range m).map nv)[p]?=some (nv p):=map_some (by rw [List.getElem?_range h])
theorem rng_none {p:Nat} (h:¬ p < m):((List.range m).map nv)[p]?=none:=map_none (List.getElem?_eq_none (by rw [List.length_range];exact Nat.not_lt.mp h))
theorem comp_ok {it:Iter}{elt:List (Option V)→CM V}{U:List V→AH→Prop} (vs:List V) (Inv:Nat→List V→AH→Prop) (hit:∀ p acc H,Inv p acc H→∀ {A:Prop}{B:V→Prop},optB vs[p]? A B→itK it p H A B) (hlen:∀ p acc H,Inv p acc H→acc.length=p) (hl:vs.length < 2000)
    (step:∀ p v acc H (K:V→AH→Prop),vs[p]?=some v→Inv p acc H→(∀ x H',Inv (p+1) (acc++[x]) H'→K x H')→elt [some v] H K) (hq:∀ acc H,Inv vs.length acc H→U acc H) (h0:Inv 0 [] H):compTurns it 1 (fun _ H Q=>Q true H) elt fuelFor 0 [] H U:=by
  suffices h:∀ n p acc H,vs.length < n+p→p≤vs.length→Inv p acc H→compTurns it 1 (fun _ H Q=>Q true H) elt n p acc H U from h 2000 0 [] H hl (Nat.zero_le _) h0
  intro n
  induction n with
  | zero=>exact fun p _ _ h h2=>absurd h (Nat.not_lt.mpr (Nat.le_trans (Nat.le_of_eq (Nat.zero_add p)) h2))
  | succ n ih =>
    intro p acc H h h2 i
    show itK it p H (U acc H) fun v=>compOwn 1 v fun o=>iteB true (elt o H fun x H=>acc.length < lim∧compTurns it 1 (fun _ H Q=>Q true H) elt n (p+1) (acc++[x]) H U) (compTurns it 1 (fun _ H Q=>Q true H) elt n (p+1) acc H U)
    refine hit p acc H i ?_
    by_cases hp:p < vs.length
    · refine optB_of (List.getElem?_eq_getElem hp) (.inl ⟨rfl,step p _ acc H _ (List.getElem?_eq_getElem hp) i fun x H' i'=>⟨?_,ih (p+1) _ H' (Nat.lt_of_lt_of_eq h ((Nat.add_assoc n 1 p).trans (congrArg (n+·) (Nat.add_comm 1 p)))) hp i'⟩⟩)
      rw [hlen p acc H i];exact Nat.lt_trans hp (Nat.lt_trans hl (by decide))
    · have e:=Nat.le_antisymm h2 (Nat.not_lt.mp hp)
      exact optB_no (List.getElem?_eq_none (Nat.not_lt.mp hp)) (hq acc H (e▸i))
noncomputable abbrev drawT:List Mine.S:=[.asg (.v 2) (.bin .mod (.bin .mul (.bin .mod (.l 2) (.c (.int 2147483629))) (.c (.int 40692))) (.c (.int 2147483647))),
      .asg (.v 2) (.bin .mod (.bin .add (.bin .mul (.l 2) (.l 2)) (.c (.int 1319))) (.c (.int 2147483587))),
      .ret (.bin .mod (.bin .fdiv (.bin .mod (.bin .mul (.l 2) (.c (.int 39373))) (.c (.int 2147483579))) (.c (.int 64))) (.l 1))]
theorem draw_tail {O:Orc}{F:Int}{c:Option V}{N:Loc→AH→Prop}{Ct:Loc→AH→Prop} (hb:0 < b) (hq:∀ r:Nat,r < b→Q (.int (r:Int)) H):evSs O drawT [some (.ref D),some (.int (b:Int)),some (.int F),c] H N Q Ct:=by
  left
  refine mod_of (by decide) ?_
  left
  refine mul_r (by decide) ?_
  left
  refine mod_nat (b:=2147483647) (by decide) fun r hr=>?_
  left
  refine mul_l (Nat.lt_trans hr (by decide)) ?_
  left
  refine mod_of (by decide) ?_
  left
  refine mul_r (by decide) ?_
  left
  refine mod_of (by decide) ?_
  left
  refine fdiv_of (by decide) ?_
  left
  exact mod_nat hb hq
theorem draw_ok {d:Nat} (X:DeckI H D C n) (hn:n < 10000) (hb:0 < b) (hb':b < 1000)
    (hq:∀ H' (r:Nat),Kp [D,C] H H'→DeckI H' D C (n+1)→r < b→Q (.int (r:Int)) H'):callN (d+1) .draw [.ref D,.int (b:Int)] H Q:=by
  obtain ⟨cs,mx,t,h1,h2,h3,h6⟩:=X
  have hCD:C≠D:=ne_of h2 h1 nofun
  have mC:C∈[D,C]:=.tail _ (.head _)
  refine call_of rfl rfl rfl rfl ?_
  left
  refine dk_turn h1 ?_
  left
  refine setd_k h1 rfl rfl (show 3 < 100000 by decide) fun H1 k1 g1 _=>?_
  have g1:H1[D]?=some (.dict (dkv C mx (t+1))):=g1
  have g2:=k1.at1 h2 hCD
  have kp1:Kp [D,C] H H1:=k1.one (.head _)
  left
  refine dk_mixed g1 ?_
  left
  refine dk_turn g1 ?_
  left
  refine mul_l (by decide) ?_
  left
  refine dk_turn g1 ?_
  refine mul_r (Nat.lt_of_le_of_lt (Nat.succ_le_succ (Nat.le_trans h6 (Nat.le_of_lt hn))) (by decide)) ?_
  left
  refine dk_cells g1 ?_
  left
  refine new_k (lim_of rfl) fun H2 k2 e2 _=>?_
  have q1:=k2.at0 g1
  have q2:=k2.at0 g2
  have kp2:=kp1.then k2.nil
  have ht:t+1≤n+1:=Nat.succ_le_succ h6
  rcases List.eq_nil_or_concat cs with h | ⟨cs',c,h⟩
  · subst h
    refine ne_empty q2 e2 rfl (iteB_f rfl ?_)
    refine ss_n (draw_tail hb fun r hr=>hq H2 r kp2 ⟨[],mx,t+1,q1,q2,h3,ht⟩ hr)
  · rw [List.concat_eq_append] at h
    subst h
    rw [List.length_append] at h3
    have h3':cs'.length+1≤12:=h3
    rw [List.map_append] at q2
    have hl:∀ {x:V},((cs'.map V.int)++[x]).length≤lim:=by
      intro x;rw [List.length_append,List.length_map];exact Nat.le_trans h3' (by decide)
    refine ne_empty (r:=false) q2 e2 app_some (iteB_t rfl ?_)
    left
    refine dk_cells q1 ?_
    refine pop_of q2 hl List.getLast?_concat ?_
    have p1:=get_ne (o':=.list ((cs'.map V.int)++[V.int c]).dropLast) q1 hCD
    have p2:=get_set (o':=.list ((cs'.map V.int)++[V.int c]).dropLast) q2
    have k3:Kp [C] H2 (H2.set C (.list ((cs'.map V.int)++[V.int c]).dropLast)):=.set (.head _)
    have e3:((cs'.map V.int)++[V.int c]).dropLast=cs'.map V.int:=List.dropLast_concat
    rw [show [c].map V.int=[V.int c] from rfl]
    revert p1 p2 k3
    rw [e3]
    generalize H2.set C (.list (cs'.map V.int))=H3
    intro p1 p2 k3
    have kp3:=kp2.then (k3.one mC)
    left
    refine iteB_d (fun hge=>?_) fun hge=>?_
    · left
      refine dk_cells p1 ?_
      left
      refine fdiv_of ⟨Int.ofNat_lt.mpr hb,Int.ofNat_lt.mpr hb'⟩ ?_
      refine app_k p2 (Nat.lt_of_lt_of_le (Nat.lt_of_lt_of_eq (Nat.lt_succ_self _) (List.length_append (as:=cs'.map V.int) (bs:=[V.int 0])).symm) hl) fun H4 k4 e4 _=>?_
      left
      refine mod_nat hb fun r hr=>hq H4 r (kp3.then (k4.one mC)) ⟨cs'++[Int.fdiv c b],mx,t+1,k4.at1 p1 hCD.symm,e4.trans (by rw [List.map_append];rfl),(by rw [List.length_append];exact h3),ht⟩ hr
    · left
      refine mod_of (by decide) (add_int (g_v rfl (ss_n ?_)))
      exact draw_tail hb fun r hr=>hq H3 r kp3 ⟨cs',mx,t+1,p1,p2,Nat.le_of_succ_le h3',ht⟩ hr
theorem deck_ok {d:Nat}{l:List Int} (hlim:l.length≤lim) (hq:∀ H' D C,Kp [] H H'→DeckI H' D C 0→H.length≤D→H.length≤C→Q (.ref D) H'):callN (d+1) .deck [.flist (l.map .int)] H Q:=by
  have l12:(l.take 12).length≤12:=List.length_take_le ..
  have l0:((l.take 12).map V.int).length≤lim:=Nat.le_trans (Nat.le_of_eq (List.length_map ..)) (Nat.le_trans l12 (by decide))
  refine call_of rfl rfl rfl rfl ?_
  left
  refine .inr ⟨by decide,.inl ⟨_,rfl,Nat.le_trans (Nat.le_of_eq (List.length_map ..)) hlim,?_⟩⟩
  rw [show (l.map V.int).take (12:Int).toNat=(l.take 12).map V.int by rw [List.map_take];rfl]
  refine new_k l0 fun H1 k1 e1 _=>?_
  left
  refine comp_map (l.take 12) V.int V.int (fun x=>[some (.int x)]) (fun _=>true) (it_live e1) (fun x _ B q=>.inl ⟨rfl,q⟩) (fun x hx R r=>r) (fun x hx _ R r=>?_) (Nat.lt_of_le_of_lt l12 (by decide)) ?_
  · left
    exact r
  rw [List.filter_eq_self.mpr fun _ _=>rfl]
  refine new_k l0 fun H2 k2 e2 _=>?_
  left
  refine for_ok ((l.take 12).map .int) (fun p loc H'=>∃ mx c,loc=[some (.flist (l.map .int)),some (.ref H1.length),some (.int mx),c]∧notCelO c=true∧H'=H2) (fun p loc H' i A B q=>?_) (fun p v loc H' K hv i hK=>?_) (fun loc H' i=>?_) fuelFor 0 _ _ (Nat.lt_of_le_of_lt (Nat.le_of_eq (List.length_map ..)) (Nat.lt_of_le_of_lt l12 (by decide))) (Nat.zero_le _) ⟨_,none,rfl,rfl,rfl⟩
  · obtain ⟨_,_,_,_,rfl⟩:=i
    exact it_live e2 p q
  · obtain ⟨mx,c,rfl,nC,rfl⟩:=i
    rw [List.getElem?_map] at hv
    obtain ⟨x,hx,rfl⟩:=Option.map_eq_some_iff.mp hv
    left
    refine mul_r (by decide) ?_
    left
    refine mod_of (by decide) ?_
    left
    refine mod_of (by decide) ?_
    left
    exact hK _ _ ⟨_,_,rfl,rfl,rfl⟩
  · obtain ⟨mx,c,rfl,nC,rfl⟩:=i
    left
    refine rev_of e2 (Nat.le_trans (Nat.le_of_eq (List.length_reverse ..)) l0) ?_
    have k3:Kp [] H' (H'++[.list ((l.take 12).map V.int).reverse]):=.app
    have e3:=get_new (H:=H') (o:=.list ((l.take 12).map V.int).reverse)
    generalize H'++[.list ((l.take 12).map V.int).reverse]=H3 at *
    left
    refine dct_k (kvs:=dkv H'.length mx 0) rfl fun H4 k4 e4 _=>?_
    have k02:=(k1.then k2)
    exact hq _ _ H'.length ((k02.then k3).then k4) ⟨(l.take 12).reverse,mx,0,e4,(k4.at0 e3).trans (by rw [List.map_reverse]),Nat.le_trans (Nat.le_of_eq (List.length_reverse ..)) l12,Nat.le_refl _⟩ (k02.then k3).len k02.len
theorem pick_ok {d L:Nat}{xs:List Nat} (X:DeckI H D C n) (hn:n < 10000) (hL:H[L]?=some (.list (xs.map nv))) (h0:0 < xs.length) (hx:xs.length < 1000) (nD:L≠D) (nC:L≠C)
    (hq:∀ H' x,Kp [D,C] H H'→DeckI H' D C (n+1)→x∈xs→Q (nv x) H'):callN (d+2) .pick [.ref D,.ref L] H Q:=by
  have hl:=ints_lim (Nat.le_of_lt hx)
  refine call_of rfl rfl rfl rfl ?_
  left
  refine len_list hL hl ?_
  rw [List.length_map]
  left
  refine draw_ok X hn h0 hx fun H' r kp X' hr=>?_
  left
  exact sub_list (kp.at2 hL nD nC) hl (map_some (List.getElem?_eq_getElem hr)) rfl (hq H' _ kp X' (List.getElem_mem hr))
theorem rep_one (v:V):∀ n,rep [v] n=List.replicate n v
  | 0=>rfl
  | n+1=>congrArg (v :: ·) (rep_one v n)
theorem times_ok {d many:Nat} (X:DeckI H D C n) (hn:n < 9000) (hm:many≤8)
    (hq:∀ H' T (ts:List Nat),Kp [D,C] H H'→DeckI H' D C (n+10)→H'[T]?=some (.list (ts.map nv))→ts.length=many→(∀ t∈ts,t≤1010)→H.length≤T→Q (.ref T) H'):callN (d+2) .times [.ref D,nv many] H Q:=by
  have hm9:many≤1000:=Nat.le_trans hm (by decide)
  have hn':n < 10000:=Nat.lt_trans hn (by decide)
  have hr2:∀ {f:Nat→Nat},((List.range many).map f).length=many:=by intro f;rw [List.length_map,List.length_range]
  have hr0:(List.range many).length < 2000:=by rw [List.length_range];exact Nat.lt_of_le_of_lt hm (by decide)
  refine call_of rfl rfl rfl rfl ?_
  left
  refine draw_ok (b:=4) X hn' (by decide) (by decide) fun H1 w k1 X1 _=>?_
  have fin:∀ (f:Nat→Nat),(∀ k,k < many→f k≤1010)→∀ H',Kp [] H1 H'→H'[H1.length]?=some (.list ((List.range many).map fun k=>nv (f k)))→Q (.ref H1.length) H':=fun f hf H' k' e'=>hq _ _ ((List.range many).map f) (k1.then k'.nil) ((X1.mem k').mono (Nat.add_le_add_left (by decide) n)) (e'.trans (by rw [List.map_map];rfl)) hr2 (fun t m=>by
    obtain ⟨k,hk,rfl⟩:=List.mem_map.mp m
    exact hf k (List.mem_range.mp hk)) k1.len
  have lm:∀ {f:Nat→Nat},((List.range many).map fun k=>nv (f k)).length≤lim:=by intro f;rw [List.length_map,List.length_range];exact Nat.le_trans hm (by decide)
  left
  cases hw:((w:Int) == 0) with
  | true =>
    refine iteB_t rfl ?_
    left
    refine ⟨rng_of hm9,?_⟩
    refine comp_map (List.range many) nv (fun k=>nv (100+10 * k)) (fun x=>[some (nv x)]) (fun _=>true) (fun q _ _ z=>z) (fun x _ B q=>.inl ⟨rfl,q⟩) (fun x hx R r=>r) (fun x hx _ R r=>?_) hr0 ?_
    · left
      refine mul_l (by decide) ?_
      left
      exact r
    rw [List.filter_eq_self.mpr fun _ _=>rfl]
    exact new_k lm fun H2 k2 e2 _=>fin _ (fun k hk=>Nat.le_trans (Nat.add_le_add_left (Nat.mul_le_mul_left 10 (Nat.le_trans (Nat.le_of_lt hk) hm)) 100) (by decide)) H2 k2 e2
  | false =>
  refine iteB_f rfl ?_
  left
  cases hw:((w:Int) == 1) with
  | true =>
    refine iteB_t rfl ?_
    left
    refine new_k (lim_of rfl) fun H2 k2 e2 _=>?_
    left
    refine .inr (.inr (.inr ⟨rfl,lst_of e2 ⟨⟨Int.natCast_nonneg _,Int.ofNat_le.mpr hm9,Nat.le_refl _⟩,?_⟩⟩))
    rw [rep_one,show (many:Int).toNat=many from rfl]
    refine new_k (by rw [List.length_replicate];exact Nat.le_trans hm (by decide)) fun H3 k3 e3 _=>?_
    exact hq _ _ (List.replicate many 500) ((k1.then k2.nil).then k3.nil) (((X1.mem k2).mem k3).mono (Nat.add_le_add_left (by decide) n)) (e3.trans (by rw [List.map_replicate];rfl)) List.length_replicate (fun t m=>(List.eq_of_mem_replicate m)▸(by decide)) (Nat.le_trans k1.len k2.len)
  | false =>
  refine iteB_f rfl ?_
  left
  cases hw:((w:Int) == 2) with
  | true =>
    refine iteB_t rfl ?_
    left
    refine ⟨rng_of hm9,?_⟩
    refine comp_map (List.range many) nv (fun k=>nv (900 - 10 * k)) (fun x=>[some (nv x)]) (fun _=>true) (fun q _ _ z=>z) (fun x _ B q=>.inl ⟨rfl,q⟩) (fun x hx R r=>r) (fun x hx _ R r=>?_) hr0 ?_
    · left
      refine mul_l (by decide) ?_
      left
      have e:(900:Int) - 10 * (x:Int)=((900 - 10 * x:Nat):Int):=(Int.ofNat_sub (Nat.le_trans (Nat.mul_le_mul_left 10 (Nat.le_trans (Nat.le_of_lt (List.mem_range.mp hx)) hm)) (by decide):10 * x≤900)).symm
      rw [e]
      exact r
    rw [List.filter_eq_self.mpr fun _ _=>rfl]
    exact new_k lm fun H2 k2 e2 _=>fin _ (fun k hk=>Nat.le_trans (Nat.sub_le ..) (by decide)) H2 k2 e2
  | false =>
  refine iteB_f rfl ?_
  left
  refine ⟨rng_of hm9,?_⟩
  have hrm:((List.range many).map nv).length=many:=by rw [List.length_map,List.length_range]
  refine comp_ok ((List.range many).map nv) (fun p acc H'=>∃ ts:List Nat,acc=ts.map nv∧ts.length=p∧(∀ t∈ts,t≤1010)∧Kp [D,C] H1 H'∧DeckI H' D C (n+1+p)) (fun p acc H' i A B q=>q) (fun p acc H' ⟨ts,a,b,_⟩=>by rw [a,List.length_map,b]) (Nat.lt_of_le_of_lt (Nat.le_of_eq hrm) (Nat.lt_of_le_of_lt hm (by decide))) (fun p v acc H' K hv ⟨ts,a,b,c,kp,X'⟩ hK=>?_) (fun acc H' ⟨ts,a,b,c,kp,X'⟩=>?_) ⟨[],rfl,rfl,nofun,.refl,X1⟩
  · have hp:p < many:=hrm▸(gS hv).1
    left
    refine draw_ok (b:=6) X' (Nat.lt_of_lt_of_le (Nat.add_lt_add_of_lt_of_le (Nat.succ_lt_succ hn) (Nat.le_trans (Nat.le_of_lt hp) hm)) (by decide)) (by decide) (by decide) fun H2 r k2 X2 hr=>?_
    left
    exact hK _ H2 ⟨ts++[1000+r],by rw [a,List.map_append];rfl,by rw [List.length_append,b];rfl,mem_app c (Nat.le_trans (Nat.add_le_add_left (Nat.le_of_lt hr) 1000) (by decide)),kp.then k2,X2⟩
  · subst a
    rw [hrm] at b X'
    exact new_k (ints_lim (b▸hm9)) fun H3 k3 e3 _=>hq _ _ ts ((k1.then kp).then k3.nil) ((X'.mem k3).mono (Nat.add_le_add_left (Nat.add_le_add_left hm 1) n |> fun q=>Nat.le_trans (Nat.le_of_eq (Nat.add_assoc n 1 many)) (Nat.le_trans q (Nat.add_le_add_left (by decide) n)))) e3 b c (Nat.le_trans k1.len kp.len)
end
structure RowsAt (H:AH) (R:Nat) (refs:List Nat) (g:Gr):Prop where
  l:H[R]?=some (.list (refs.map .ref))
  len:refs.length=g.length
  row:∀ (k r:Nat),refs[k]?=some r→H[r]?=some (.list ((par g k).map nv))
theorem RowsAt.keep {H H':AH}{R:Nat}{refs:List Nat}{g:Gr}{S:List Nat} (X:RowsAt H R refs g) (kp:Kp S H H') (h1:R∉S) (h2:∀ r∈refs,r∉S):RowsAt H' R refs g :=
  ⟨kp.at X.l h1,X.len,fun k r e=>kp.at (X.row k r e) (h2 r (List.mem_of_getElem? e))⟩
theorem RowsAt.lt {H:AH}{R:Nat}{refs:List Nat}{g:Gr} (X:RowsAt H R refs g):∀ r∈refs,r < H.length:=fun r m=>by
  obtain ⟨k,e⟩:=List.mem_iff_getElem?.mp m
  exact lt_of (X.row k r e)
theorem par_app_lt {g:Gr}{row:List Nat}{k:Nat} (h:k < g.length):par (g++[row]) k=par g k:=by
  unfold par;simp only [List.getD];rw [List.getElem?_append_left h]
theorem par_app_eq {g:Gr}{row:List Nat}:par (g++[row]) g.length=row:=by
  unfold par;simp [List.getD]
theorem RowsAt.push {H H':AH}{R Rw:Nat}{refs:List Nat}{g:Gr}{row:List Nat} (X:RowsAt H R refs g) (hr:H[Rw]?=some (.list (row.map nv))) (n:Rw≠R) (nr:∀ r∈refs,r≠R) (kp:Kp [R] H H') (e:H'[R]?=some (.list ((refs++[Rw]).map .ref))):RowsAt H' R (refs++[Rw]) (g++[row]):=by
  refine ⟨e,by rw [List.length_append,List.length_append,X.len];rfl,fun k r e=>?_⟩
  by_cases hk:k < refs.length
  · rw [List.getElem?_append_left hk] at e
    rw [par_app_lt (X.len▸hk)]
    exact kp.at1 (X.row k r e) (nr r (List.mem_of_getElem? e))
  · have h1:=(gS e).1
    rw [List.length_append] at h1
    cases Nat.le_antisymm (Nat.le_of_lt_succ h1) (Nat.not_lt.mp hk)
    rw [List.getElem?_append_right (Nat.le_refl _),Nat.sub_self] at e
    cases e
    rw [X.len,par_app_eq]
    exact kp.at1 hr n
theorem RowsAt.mem {H H':AH}{R:Nat}{refs:List Nat}{g:Gr} (X:RowsAt H R refs g) (kp:Kp [] H H'):RowsAt H' R refs g:=X.keep kp List.not_mem_nil fun _ _=>List.not_mem_nil
theorem RowsAt.old {H H':AH}{R:Nat}{refs:List Nat}{g:Gr}{S:List Nat} (X:RowsAt H R refs g) (kp:Kp S H H') (h:∀ i∈S,i≠R∧i∉refs):RowsAt H' R refs g:=X.keep kp (fun m=>(h _ m).1 rfl) fun r m q=>(h _ q).2 m
theorem map_erase:∀ (l:List Nat) (r:Nat),(l.map nv).eraseIdx r=(l.eraseIdx r).map nv
  | [],r=>rfl
  | a :: t,0=>rfl
  | a :: t,r+1=>by
    show nv a :: (t.map nv).eraseIdx r=_
    rw [map_erase t r];rfl
structure RowOk (k p:Nat) (left row:List Nat):Prop where
  nl:left.Nodup
  ll:∀ x∈left,x < k
  lr:∀ x∈row,x < k
  len:row.length≤p
theorem popAt_k {i r:Nat}{l:List Nat}{H:AH}{Q:V→AH→Prop} (h:H[i]?=some (.list (l.map nv))) (hr:r < l.length) (hl:l.length≤1000) (q:∀ H',Kp [i] H H'→H'[i]?=some (.list ((l.eraseIdx r).map nv))→H'.length=H.length→Q (nv l[r]) H'):popAtV (.ref i) (nv r) H Q:=by
  refine lst_of h ⟨⟨Int.natCast_nonneg _,Int.ofNat_lt.mpr (Nat.lt_of_lt_of_eq hr (List.length_map ..).symm),ints_lim hl⟩,optK_of (map_some (List.getElem?_eq_getElem hr)) ?_⟩
  exact q _ (.set (.head _)) ((get_set h).trans (congrArg (fun z=>some (AObj.list z)) (map_erase ..))) List.length_set
theorem not4 {a b c d x:Nat} (h1:x≠a) (h2:x≠b) (h3:x≠c) (h4:x≠d):x∉[a,b,c,d]:=fun m=>(mZ m).elim h1 fun m=>(mZ m).elim h2 fun m=>(mZ m).elim h3 fun m=>h4 (mS m)
noncomputable abbrev drB:List S:=[.ite (.cmp .ne (.l 4) (.lst [])) [.ex (.app (.l 5) (.popAt (.l 4) (.fn .draw [(.l 0),(.len (.l 4))])))] []]
theorem row_loop {d D C n m k Lf Rw:Nat}{a1 a2:Option V}{H0:AH}{N:Loc→AH→Prop}{R:V→AH→Prop} (hn:n < 9000) (hm:m≤3) (hk:k≤10) (n1:Lf≠D) (n2:Lf≠C) (n3:Rw≠D) (n4:Rw≠C) (n5:Lf≠Rw)
    (hN:∀ H' (row:List Nat) c,notCelO c=true→Kp [D,C,Lf,Rw] H0 H'→DeckI H' D C (n+m)→H'[Rw]?=some (.list (row.map nv))→(∀ x∈row,x < k)→row.length≤3→N [some (.ref D),a1,a2,some (nv k),some (.ref Lf),some (.ref Rw),c] H') :
    ∀ (j fuel p:Nat) (left row:List Nat) c H,p+j=m→j < fuel→notCelO c=true→Kp [D,C,Lf,Rw] H0 H→DeckI H D C (n+p)→H[Lf]?=some (.list (left.map nv))→H[Rw]?=some (.list (row.map nv))→RowOk k p left row →
    forTurns (.vals ((List.range m).map nv)) (asg (orc (d+1)) (.v 6)) (evSs (orc (d+1)) drB) fuel p [some (.ref D),a1,a2,some (nv k),some (.ref Lf),some (.ref Rw),c] H N R:=by
  intro j
  induction j with
  | zero =>
    intro fuel p left row c H hp hf nc kp X eL eR ok
    cases fuel with
    | zero=>exact absurd hf (Nat.lt_irrefl _)
    | succ fuel =>
    rw [Nat.add_zero] at hp
    subst hp
    exact for_s (optB_no (rng_none (Nat.lt_irrefl _)) (hN H row c nc kp X eR ok.lr (Nat.le_trans ok.len hm)))
  | succ j ih =>
    intro fuel p left row c H hp hf nc kp X eL eR ok
    cases fuel with
    | zero=>exact absurd hf (Nat.not_lt_zero _)
    | succ fuel =>
    have hp':p+1+j=m:=(Nat.add_assoc ..).trans ((congrArg (p+·) (Nat.add_comm ..)).trans hp)
    have hpm:p < m:=hp▸Nat.lt_add_of_pos_right (Nat.succ_pos _)
    have hf':=Nat.lt_of_succ_lt_succ hf
    have hll:left.length≤10:=Nat.le_trans (nodup_len _ _ ok.nl ok.ll) hk
    refine for_s (optB_of (rng_some hpm) ?_)
    left
    refine new_k (lim_of rfl) fun H1 k1 e1 _=>?_
    have eL1:=k1.at0 eL
    have eR1:=k1.at0 eR
    have X1:=X.mem k1
    cases left with
    | nil =>
      refine ne_empty eL1 e1 rfl (iteB_f rfl ?_)
      left
      exact ih fuel (p+1) [] row _ H1 hp' hf' rfl (kp.then k1.nil) (X1.mono (Nat.le_succ _)) eL1 eR1 ⟨ok.nl,ok.ll,ok.lr,Nat.le_succ_of_le ok.len⟩
    | cons a rest =>
      refine ne_empty eL1 e1 rfl (iteB_t rfl ?_)
      left
      refine len_list eL1 (ints_lim (Nat.le_trans hll (by decide))) ?_
      rw [List.length_map]
      left
      refine draw_ok X1 (Nat.lt_trans (Nat.add_lt_add hn (Nat.lt_of_lt_of_le hpm hm)) (by decide)) (Nat.succ_pos _) (Nat.lt_of_le_of_lt hll (by decide)) fun H2 r k2 X2 hr=>?_
      refine popAt_k (k2.at2 eL1 n1 n2) hr (Nat.le_trans hll (by decide)) fun H3 k3 e3 _=>?_
      refine app_k (k3.at1 (k2.at2 eR1 n3 n4) n5.symm) (Nat.lt_of_le_of_lt (Nat.le_of_eq (List.length_map ..)) (Nat.lt_of_le_of_lt ok.len (Nat.lt_of_lt_of_le hpm (Nat.le_trans hm (by decide))))) fun H4 k4 e4 _=>?_
      left
      have hmem:(a :: rest)[r]∈a :: rest:=List.getElem_mem hr
      refine ih fuel (p+1) ((a :: rest).eraseIdx r) (row++[(a :: rest)[r]]) _ H4 hp' hf' rfl
        ((((kp.then k1.nil).then (k2.two (.head _) (.tail _ (.head _)))).then (k3.one (.tail _ (.tail _ (.head _))))).then (k4.one (.tail _ (.tail _ (.tail _ (.head _))))))
        ((X2.keep k3 (fun m=>n1 (mS m).symm) fun m=>n2 (mS m).symm).keep k4 (fun m=>n3 (mS m).symm) fun m=>n4 (mS m).symm) (k4.at1 e3 n5) (e4.trans (by rw [List.map_append];rfl))
        ⟨ok.nl.eraseIdx r,fun x m=>ok.ll x (List.mem_of_mem_eraseIdx m),mem_app ok.lr (ok.ll _ hmem),by rw [List.length_append];exact Nat.succ_le_succ ok.len⟩
noncomputable def wfB (g:Gr):Bool:=(List.range g.length).all fun k=>(par g k).all (fun j=>Nat.blt j k) && Nat.ble (par g k).length 3
theorem wf_iff {g:Gr}:wfB g=true↔∀ k,k < g.length→(∀ j∈par g k,j < k)∧(par g k).length≤3:=by
  unfold wfB
  rw [List.all_eq_true]
  exact ⟨fun h k hk=>(Bool.and_eq_true_iff.mp (h k (List.mem_range.mpr hk))).imp (fun a j m=>Nat.le_of_ble_eq_true (List.all_eq_true.mp a j m)) Nat.le_of_ble_eq_true,
    fun h k hk=>Bool.and_eq_true_iff.mpr ((h k (List.mem_range.mp hk)).imp (fun a=>List.all_eq_true.mpr fun j m=>Nat.ble_eq_true_of_le (a j m)) Nat.ble_eq_true_of_le)⟩
theorem wf_of {g:Gr} (h:wfB g=true) {k:Nat} (hk:k < g.length):(∀ j∈par g k,j < k)∧(par g k).length≤3:=wf_iff.mp h k hk
theorem wfB_push {g:Gr}{row:List Nat} (h:wfB g=true) (hr:∀ j∈row,j < g.length) (hl:row.length≤3):wfB (g++[row])=true:=wf_iff.mpr fun k hk=>by
  by_cases h2:k < g.length
  · rw [par_app_lt h2];exact wf_of h h2
  · rw [List.length_append] at hk
    cases Nat.le_antisymm (Nat.le_of_lt_succ hk) (Nat.not_lt.mp h2)
    rw [par_app_eq];exact ⟨hr,hl⟩
noncomputable abbrev dwB:List S:=[.asg (.tup [(.v 4),(.v 5)]) (.tup [(.listRange (.l 3)),(.lst [])]),
      .for (.v 6) (.range (.fn .pick [(.l 0),(.lst [(.c (.int 1)),(.c (.int 1)),(.c (.int 1)),(.c (.int 2)),(.c (.int 2)),(.c (.int 3)),(.c (.int 0))])])) drB,
      .ex (.app (.l 2) (.l 5))]
theorem dw_loop {d D C n M Rl:Nat}{H0:AH}{N:Loc→AH→Prop}{R:V→AH→Prop} (hn:n < 8000) (hM:M≤4) (hDl:D < H0.length) (hCl:C < H0.length) (hRl:H0.length≤Rl)
    (hN:∀ H' refs g c3 c4 c5 c6,Kp [D,C] H0 H'→DeckI H' D C (n+16)→RowsAt H' Rl refs g→wfB g=true→g.length=M→(∀ r∈refs,H0.length≤r∧r≠Rl)→N [some (.ref D),some (nv 4),some (.ref Rl),c3,c4,c5,c6] H') :
    ∀ (j fuel p:Nat) (refs:List Nat) (g:Gr) c3 c4 c5 c6 H,p+j=M→j < fuel→notCelO c3=true→notCelO c4=true→notCelO c5=true→notCelO c6=true→Kp [D,C] H0 H→DeckI H D C (n+4 * p)→RowsAt H Rl refs g→wfB g=true→g.length=p→(∀ r∈refs,H0.length≤r∧r≠Rl) →
    forTurns (.vals ((List.range M).map nv)) (asg (orc (d+2)) (.v 3)) (evSs (orc (d+2)) dwB) fuel p [some (.ref D),some (nv 4),some (.ref Rl),c3,c4,c5,c6] H N R:=by
  intro j
  induction j with
  | zero =>
    intro fuel p refs g c3 c4 c5 c6 H hp hf n3 n4 n5 n6 kp X ra hw hg hr
    cases fuel with
    | zero=>exact absurd hf (Nat.lt_irrefl _)
    | succ fuel =>
    rw [Nat.add_zero] at hp
    subst hp
    exact for_s (optB_no (rng_none (Nat.lt_irrefl _)) (hN H refs g _ _ _ _ kp (X.mono (Nat.add_le_add_left (Nat.mul_le_mul_left 4 hM) n)) ra hw hg hr))
  | succ j ih =>
    intro fuel p refs g c3 c4 c5 c6 H hp hf n3 n4 n5 n6 kp X ra hw hg hrs
    cases fuel with
    | zero=>exact absurd hf (Nat.not_lt_zero _)
    | succ fuel =>
    have hp':p+1+j=M:=(Nat.add_assoc ..).trans ((congrArg (p+·) (Nat.add_comm ..)).trans hp)
    have hpM:p < M:=hp▸Nat.lt_add_of_pos_right (Nat.succ_pos _)
    have hp4:p < 4:=Nat.lt_of_lt_of_le hpM hM
    have hp10:p≤1000:=Nat.le_trans (Nat.le_of_lt hp4) (by decide)
    have lpn:((List.range p).map nv).length≤lim:=ints_lim (by rw [List.length_range];exact hp10)
    have hb:n+4 * p+1 < 9000:=by omega
    refine for_s (optB_of (rng_some hpM) ?_)
    left
    refine ⟨rng_of hp10,?_⟩
    refine new_k (vs:=(List.range p).map nv) lpn fun H1 k1 e1 l1=>?_
    left
    refine new_k (lim_of rfl) fun H2 k2 e2 l2=>?_
    left
    refine new_k (lim_of rfl) fun H3 k3 e3 l3=>?_
    have k13:=(k1.then k2).then k3
    have hDH:D < H.length:=Nat.lt_of_lt_of_le hDl kp.len
    have hCH:C < H.length:=Nat.lt_of_lt_of_le hCl kp.len
    have z1:=k1.len
    have z2:=Nat.le_trans z1 k2.len
    have ne:∀ {i m:Nat},i < H.length→H.length≤m→m≠i:=fun h1 h2=>Nat.ne_of_gt (Nat.lt_of_lt_of_le h1 h2)
    have r:Nat.le H.length H.length:=Nat.le_refl _
    left
    refine pick_ok (d:=d) (xs:=[1,1,1,2,2,3,0]) (X.mem k13) (Nat.lt_trans (Nat.lt_of_succ_lt hb) (by decide)) e3 (by decide) (by decide) (ne hDH z2) (ne hCH z2) fun H4 x k4 X4 hx=>?_
    have hx3:x≤3:=(show ∀ y∈[1,1,1,2,2,3,0],y≤3 by decide) x hx
    left
    refine ⟨rng_of (Nat.le_trans hx3 (by decide)),?_⟩
    refine row_loop (d:=d+1) (m:=x) (k:=p) (H0:=H4) hb hx3 (Nat.le_trans (Nat.le_of_lt hp4) (by decide)) (ne hDH r) (ne hCH r) (ne hDH z1) (ne hCH z1) (ne_old e1) (fun H5 row c nc k5 X5 e5 hrow hrl=>?_) x _ 0 (List.range p) [] c6 H4 (Nat.zero_add _) (Nat.lt_of_le_of_lt hx3 (by decide)) n6 .refl X4
      (k4.at2 (k3.at0 (k2.at0 e1)) (ne hDH r) (ne hCH r)) (k4.at2 (k3.at0 e2) (ne hDH z1) (ne hCH z1)) ⟨List.nodup_range,fun x m=>List.mem_range.mp m,nofun,Nat.le_refl _⟩
    have hRH:=lt_of ra.l
    have hrH:=ra.lt
    have k05:Kp [D,C] H H5:=(k13.nil.then k4).old k5 (fC ⟨fun _=>.head _,fC ⟨fun _=>.tail _ (.head _),fC ⟨lt_no (Nat.le_refl _),fC ⟨lt_no z1,nofun⟩⟩⟩⟩)
    have ra5:RowsAt H5 Rl refs g:=ra.old k05 (fC ⟨⟨Nat.ne_of_lt (Nat.lt_of_lt_of_le hDl hRl),fun m=>Nat.lt_irrefl _ (Nat.lt_of_lt_of_le hDl (hrs _ m).1)⟩,fC ⟨⟨Nat.ne_of_lt (Nat.lt_of_lt_of_le hCl hRl),fun m=>Nat.lt_irrefl _ (Nat.lt_of_lt_of_le hCl (hrs _ m).1)⟩,nofun⟩⟩)
    have eR:=ra5.l
    have hg4:refs.length < 4:=Nat.lt_of_le_of_lt (Nat.le_of_eq (ra.len.trans hg)) hp4
    left
    refine app_k eR (Nat.lt_of_le_of_lt (Nat.le_of_eq (List.length_map ..)) (Nat.lt_trans hg4 (by decide))) fun H6 k6 e6 l6=>?_
    left
    have n1R:H1.length≠Rl:=ne hRH z1
    refine ih fuel (p+1) (refs++[H1.length]) (g++[row]) _ _ _ _ H6 hp' (Nat.lt_of_succ_lt_succ hf) rfl rfl rfl nc ((kp.then k05).old k6 fun i m h=>lt_no hRl (mS m▸h)) ((X5.mono (by omega)).keep k6 (fun m=>Nat.ne_of_lt (Nat.lt_of_lt_of_le hDl hRl) (mS m)) fun m=>Nat.ne_of_lt (Nat.lt_of_lt_of_le hCl hRl) (mS m))
      (ra5.push e5 n1R (fun r m=>(hrs r m).2) k6 (e6.trans (by rw [List.map_append];rfl))) (wfB_push hw (hg.symm▸hrow) hrl) (List.length_append.trans (congrArg Nat.succ hg)) fun r m=>(mA m).elim (hrs r) fun m=>mS m▸⟨Nat.le_trans kp.len z1,n1R⟩
theorem drawn_rows_ok {d D C n:Nat}{H:AH}{Q:V→AH→Prop} (X:DeckI H D C n) (hn:n < 7900)
    (hq:∀ H' R refs g m,Kp [D,C] H H'→DeckI H' D C (n+17)→RowsAt H' R refs g→wfB g=true→g.length=m→2≤m→m≤4→H.length≤R→(∀ r∈refs,H.length≤r∧r≠R)→Q (.ref R) H'):callN (d+3) .drawn_rows [.ref D,nv 4] H Q:=by
  obtain ⟨hDl,hCl⟩:D < H.length∧C < H.length:=by obtain ⟨_,_,_,a,b,_⟩:=X;exact ⟨lt_of a,lt_of b⟩
  refine call_of rfl rfl rfl rfl ?_
  left
  refine new_k (lim_of rfl) fun H1 k1 e1 l1=>?_
  left
  refine draw_ok (b:=3) (X.mem k1) (Nat.lt_trans hn (by decide)) (by decide) (by decide) fun H2 r k2 X2 hr=>?_
  have hr4:2+r≤4:=Nat.add_le_add_left (Nat.le_of_lt_succ hr) 2
  left
  refine ⟨rng_of (m:=2+r) (Nat.le_trans hr4 (by decide)),?_⟩
  refine dw_loop (d:=d) (M:=2+r) (H0:=H) (n:=n+1) (Nat.lt_of_lt_of_le (Nat.succ_lt_succ hn) (by decide)) hr4 hDl hCl (Nat.le_refl _) (fun H3 refs g c3 c4 c5 c6 kp X3 ra hw hg hrs=>?_) (2+r) _ 0 [] [] none none none none H2 (Nat.zero_add _) (Nat.lt_of_le_of_lt hr4 (by decide)) rfl rfl rfl rfl (k1.nil.then k2) X2 ⟨k2.at2 e1 (Nat.ne_of_gt hDl) (Nat.ne_of_gt hCl),rfl,nofun⟩ rfl rfl nofun
  left
  exact hq H3 _ refs g _ kp (X3.mono (by omega)) ra hw hg (Nat.le_add_right ..) hr4 (Nat.le_refl _) hrs
noncomputable def Fam (g:Gr):Prop:=wfB g=true∧2≤g.length∧g.length≤5
theorem Fam.wfb {g:Gr} (h:Fam g):wfB g=true:=h.1
theorem Fam.len {g:Gr} (h:Fam g):2≤g.length∧g.length≤5:=h.2
noncomputable def crissP:Gr:=[[],[0],[0],[1,2],[2,1]]
theorem rows_ok {d D C n:Nat}{H:AH}{Q:V→AH→Prop} (X:DeckI H D C n) (hn:n < 7000)
    (hq:∀ H' R refs g,Kp [D,C] H H'→DeckI H' D C (n+18)→RowsAt H' R refs g→Fam g→H.length≤R→(∀ r∈refs,H.length≤r∧r≠R)→Q (.ref R) H'):callN (d+4) .rows [.ref D] H Q:=by
  refine call_of rfl rfl rfl rfl ?_
  left
  refine draw_ok (b:=3) X (Nat.lt_trans hn (by decide)) (by decide) (by decide) fun H1 r k1 X1 hr=>?_
  left
  cases hgt:decide ((0:Int) < (r:Int)) with
  | true =>
    refine iteB_t rfl ?_
    left
    exact drawn_rows_ok (d:=d) X1 (Nat.lt_of_le_of_lt hn (by decide)) fun H2 R refs g m k2 X2 ra hw hg h2 h4 hR hr=>hq H2 R refs g (k1.then k2) (X2.mono (by omega)) ra ⟨hw,hg.symm▸h2,hg.symm▸Nat.le_succ_of_le h4⟩ (Nat.le_trans k1.len hR) fun r m=>⟨Nat.le_trans k1.len (hr r m).1,(hr r m).2⟩
  | false =>
    refine iteB_f rfl ?_
    left
    refine new_k (lim_of rfl) fun H2 k2 e2 _=>?_
    left
    refine new_k (lim_of rfl) fun H3 k3 e3 _=>?_
    left
    refine new_k (lim_of rfl) fun H4 k4 e4 _=>?_
    left
    refine new_k (lim_of rfl) fun H5 k5 e5 _=>?_
    left
    refine new_k (lim_of rfl) fun H6 k6 e6 _=>?_
    left
    refine new_k (lim_of rfl) fun H7 k7 e7 _=>?_
    have k67:=k6.then k7
    have k57:=k5.then k67
    have k47:=k4.then k57
    have k37:=k3.then k47
    have z1:=k1.len
    have z2:=Nat.le_trans z1 k2.len
    have z3:=Nat.le_trans z2 k3.len
    have z4:=Nat.le_trans z3 k4.len
    have z5:=Nat.le_trans z4 k5.len
    refine hq H7 _ [H1.length,H2.length,H3.length,H4.length,H5.length] crissP (k1.then (k2.then k37).nil) ((X1.mem (k2.then k37)).mono (by omega)) ⟨e7,rfl,fun k r e=>?_⟩ ⟨by decide,by decide,by decide⟩ (Nat.le_trans z5 k6.len) ?_
    · match k,e with
      | 0,e=>cases e;exact k37.at0 e2
      | 1,e=>cases e;exact k47.at0 e3
      | 2,e=>cases e;exact k57.at0 e4
      | 3,e=>cases e;exact k67.at0 e5
      | 4,e=>cases e;exact k7.at0 e6
    · have n6:=ne_old e6
      have n5:=Nat.ne_of_lt (Nat.lt_of_lt_of_le (lt_of e5) k6.len)
      have n4:=Nat.ne_of_lt (Nat.lt_of_lt_of_le (lt_of e4) (Nat.le_trans k5.len k6.len))
      have n3:=Nat.ne_of_lt (Nat.lt_of_lt_of_le (lt_of e3) (Nat.le_trans k4.len (Nat.le_trans k5.len k6.len)))
      have n2:=Nat.ne_of_lt (Nat.lt_of_lt_of_le (lt_of e2) (Nat.le_trans k3.len (Nat.le_trans k4.len (Nat.le_trans k5.len k6.len))))
      exact all5 (p:=fun r=>H.length≤r∧r≠H6.length) ⟨z1,n2⟩ ⟨z2,n3⟩ ⟨z3,n4⟩ ⟨z4,n5⟩ ⟨z5,n6⟩
section
variable {H:AH}{Q:V→AH→Prop}{d n m k:Nat}{x y b:List UInt8}{s:List Nat}
theorem it_str {J:Iter→Prop} (q:J (.vals (s.map fun c=>.str [c]))):iterV (.str s) H J:=.inr (.inr (.inl q))
theorem mapM_byte:∀ (s:List Nat),(∀ c∈s,c < 256)→(s.map nv).mapM byteOf=some (s.map UInt8.ofNat)
  | [],_=>rfl
  | a :: r,h=>by
    have:byteOf (nv a)=some (UInt8.ofNat a):=if_pos (c:=0≤(a:Int)∧(a:Int) < 256) ⟨Int.natCast_nonneg _,Int.ofNat_lt.mpr (h a (List.mem_cons_self ..))⟩
    rw [List.map_cons,List.mapM_cons,this,mapM_byte r fun c m=>h c (List.mem_cons_of_mem _ m)];rfl
theorem bytes_of {i:Nat} (h:H[i]?=some (.list (s.map nv))) (hs:∀ c∈s,c < 256) (hl:s.length≤1000) (q:Q (.bytes (s.map UInt8.ofNat)) H):bytesV (.ref i) H Q:=bytes_list h (ints_lim hl) (mapM_byte s hs) q
theorem octets_of_ok (hs:∀ c∈s,c < 256) (hl:s.length≤1000) (hq:∀ H',Kp [] H H'→Q (.bytes (s.map UInt8.ofNat)) H'):callN (d+1) .octets_of [.str s] H Q:=by
  refine call_of rfl rfl rfl rfl ?_
  left
  refine it_str ?_
  refine comp_map s (fun c=>V.str [c]) nv (fun c=>[some (.str [c])]) (fun _=>true) (fun q _ _ z=>z) (fun x _ B q=>.inl ⟨rfl,q⟩) (fun x hx R r=>r) (fun x hx _ R r=>?_) (Nat.lt_of_le_of_lt hl (by decide)) ?_
  · left
    exact ⟨x,rfl,r⟩
  rw [List.filter_eq_self.mpr fun _ _=>rfl]
  refine new_k (ints_lim hl) fun H1 k1 e1 _=>?_
  left
  refine for_ok (s.map nv) (fun p loc H'=>∃ c,loc=[some (.str s),some (.ref H.length),c]∧notCelO c=true∧H'=H1) (fun p loc H' i A B q=>?_) (fun p v loc H' K hv i hK=>?_) (fun loc H' i=>?_) fuelFor 0 _ _ (Nat.lt_of_le_of_lt (Nat.le_of_eq (List.length_map ..)) (Nat.lt_of_le_of_lt hl (by decide))) (Nat.zero_le _) ⟨none,rfl,rfl,rfl⟩
  · obtain ⟨_,_,_,rfl⟩:=i
    exact it_live e1 p q
  · obtain ⟨c,rfl,nC,rfl⟩:=i
    rw [List.getElem?_map] at hv
    obtain ⟨x,hx,rfl⟩:=Option.map_eq_some_iff.mp hv
    have hx2:=hs x (List.mem_of_getElem? hx)
    left
    refine iteB_f (decide_eq_false fun z=>absurd (Int.ofNat_lt.mp z) (Nat.not_lt.mpr (Nat.le_of_lt_succ hx2))) ?_
    left
    exact hK _ _ ⟨_,rfl,rfl,rfl⟩
  · obtain ⟨c,rfl,nC,rfl⟩:=i
    left
    exact bytes_of e1 hs hl (hq H' k1)
noncomputable abbrev hexS:List Nat:=[48,49,50,51,52,53,54,55,56,57,97,98,99,100,101,102]
theorem hex_sub {j:Nat} (hj:j < 16) (hq:∀ c,c < 256→Q (.str [c]) H):subV (.str hexS) (nv j) H Q:=by
  have hall:∀ c∈hexS,c < 256:=by decide
  have hj2:j < hexS.length:=hj
  refine sub_str (lim_of rfl) (d:=hexS[j]) ?_ (hq _ (hall _ (List.getElem_mem hj2)))
  have:place hexS.length (j:Int)=some j:=(if_pos (Int.natCast_nonneg _)).trans (if_pos (Int.ofNat_lt.mpr hj2))
  rw [this];exact List.getElem?_eq_getElem hj2
theorem mapM_str:∀ (cs:List Nat),(cs.map fun c=>V.str [c]).mapM strOf=some (cs.map fun c=>[c])
  | []=>rfl
  | a :: r=>by
    rw [List.map_cons,List.mapM_cons,mapM_str r];rfl
theorem flat_one:∀ (cs:List Nat),(cs.map fun c=>[c]).flatten=cs
  | []=>rfl
  | a :: r=>congrArg (a :: ·) (flat_one r)
theorem shr_nat (hk:k < 64) (q:Q (.int ((n / 2 ^ k:Nat):Int)) H):binV .shr (.int (n:Int)) (.int (k:Int)) H Q:=by
  refine bin_intI (z:=((n / 2 ^ k:Nat):Int)) ?_ q
  show (if 0≤(n:Int)∧0≤(k:Int)∧(k:Int) < 64 then some (Int.fdiv (n:Int) (2 ^ (k:Int).toNat)) else none)=_
  rw [if_pos ⟨Int.natCast_nonneg _,Int.natCast_nonneg _,Int.ofNat_lt.mpr hk⟩,Int.toNat_natCast,show ((2:Int) ^ k)=((2 ^ k:Nat):Int) by simp,Int.fdiv_eq_ediv_of_nonneg _ (Int.natCast_nonneg _)]
  rfl
theorem hex_of_ok (hl:b.length≤100) (hq:∀ H' s,Kp [] H H'→s.length=2 * b.length→(∀ c∈s,c < 256)→Q (.str s) H'):callN (d+1) .hex_of [.bytes b] H Q:=by
  refine call_of rfl rfl rfl rfl ?_
  left
  refine new_k (lim_of rfl) fun H1 k1 e1 _=>?_
  left
  refine for_ok (it:=.vals (b.map fun (c:UInt8)=>V.int (c.toNat:Int))) (b.map fun (c:UInt8)=>V.int (c.toNat:Int)) (fun p loc H'=>∃ (c:Option V) (s:List Nat),loc=[some (.bytes b),some (.ref H.length),c]∧notCelO c=true∧Kp [] H H'∧H'[H.length]?=some (.list (s.map fun c=>V.str [c]))∧s.length=2 * p∧(∀ c∈s,c < 256)) (fun p loc H' i A B q=>q) (fun p v loc H' K hv i hK=>?_) (fun loc H' i=>?_) fuelFor 0 _ _ (Nat.lt_of_le_of_lt (Nat.le_of_eq (List.length_map ..)) (Nat.lt_of_le_of_lt hl (by decide))) (Nat.zero_le _) ⟨none,[],rfl,rfl,k1,e1,rfl,nofun⟩
  · obtain ⟨c,s,rfl,nC,kp,es,hsl,hs⟩:=i
    rw [List.getElem?_map] at hv
    obtain ⟨x,hx,rfl⟩:=Option.map_eq_some_iff.mp hv
    have hp:=(gS hx).1
    have hx2:x.toNat < 256:=x.toNat_lt
    have hsl':(s.map fun c=>V.str [c]).length≤200:=by rw [List.length_map,hsl];exact Nat.mul_le_mul_left 2 (Nat.le_trans (Nat.le_of_lt hp) hl)
    left
    refine shr_nat (k:=4) (by decide) ?_
    refine hex_sub (Nat.div_lt_of_lt_mul hx2) fun c1 h1=>?_
    refine app_k es (Nat.lt_of_le_of_lt hsl' (by decide)) fun H2 k2 e2 _=>?_
    left
    refine band_nat (y:=15) ?_
    refine hex_sub (Nat.lt_of_le_of_lt Nat.and_le_right (by decide)) fun c2 h2=>?_
    refine app_k e2 (Nat.lt_of_le_of_lt (Nat.le_trans (Nat.le_of_eq List.length_append) (Nat.succ_le_succ hsl')) (by decide)) fun H3 k3 e3 _=>?_
    left
    refine hK _ _ ⟨_,s++[c1]++[c2],rfl,rfl,(kp.old k2 fun i m h=>lt_no (Nat.le_refl _) (mS m▸h)).old k3 fun i m h=>lt_no (Nat.le_refl _) (mS m▸h),e3.trans (by rw [List.map_append,List.map_append];rfl),?_,mem_app (mem_app hs h1) h2⟩
    rw [List.length_append,List.length_append,hsl];rfl
  · obtain ⟨c,s,rfl,nC,kp,es,hsl,hs⟩:=i
    rw [List.length_map] at hsl
    have hl2:s.length≤200:=hsl▸Nat.mul_le_mul_left 2 hl
    left
    refine lst_of es ⟨Nat.le_trans (Nat.le_of_eq (List.length_map ..)) (Nat.le_trans hl2 (by decide)),.inr ⟨rfl,optK_of (mapM_str s) ?_⟩⟩
    rw [flat_one]
    exact ⟨Nat.le_trans hl2 (by decide),hq H' s kp hsl hs⟩
theorem dig_all:((List.range 1011).all fun m=>Nat.ble (digits m).length 4 && (digits m).all fun c=>Nat.blt c 256)=true:=by decide +kernel
theorem dig_ok (h:m≤1010):(digits m).length≤4∧∀ c∈digits m,c < 256 :=
  (Bool.and_eq_true_iff.mp (List.all_eq_true.mp dig_all m (List.mem_range.mpr (Nat.lt_succ_of_le h)))).imp Nat.le_of_ble_eq_true fun a c hc=>Nat.le_of_ble_eq_true (List.all_eq_true.mp a c hc)
theorem str_of (h:m≤1010) {B:V→Prop} (q:B (.str (digits m))):strK (nv m) B:=⟨⟨Int.natCast_nonneg _,Int.ofNat_lt.mpr (Nat.lt_of_le_of_lt h (by decide:1010 < 10 ^ 9))⟩,q⟩
theorem add_b (h1:x.length≤n) (h2:y.length≤m) (h:Nat.ble (n+m) 100000=true) (q:(x++y).length≤n+m→Q (.bytes (x++y)) H):binV .add (.bytes x) (.bytes y) H Q :=
  add_bytes (Nat.le_trans (Nat.add_le_add h1 h2) (Nat.le_of_ble_eq_true h)) (q (Nat.le_trans (Nat.le_of_eq List.length_append) (Nat.add_le_add h1 h2)))
noncomputable def PerAt (H:AH) (pi m:Nat):Prop:=∃ nm em zn,H[pi]?=some (.flds .Person [(.name,.bytes nm),(.email,.bytes em),(.when,nv m),(.zone,.bytes zn)])∧nm.length≤5∧em.length≤5∧zn.length≤6
theorem PerAt.keep {H':AH}{pi:Nat}{S:List Nat} (X:PerAt H pi m) (kp:Kp S H H') (h:pi∉S):PerAt H' pi m:=by
  obtain ⟨nm,em,zn,a,b⟩:=X
  exact ⟨nm,em,zn,kp.at a h,b⟩
theorem person_octets_ok {pi:Nat} (X:PerAt H pi m) (hm:m≤1010) (hq:∀ H' b,Kp [] H H'→b.length≤25→Q (.bytes b) H'):callN (d+2) .person_octets [.inst .Person pi] H Q:=by
  obtain ⟨nm,em,zn,h,h1,h2,h3⟩:=X
  have hd:=dig_ok hm
  refine call_of rfl rfl rfl rfl ?_
  left
  refine add_b h1 (Nat.le_refl 2) rfl fun a1=>?_
  left
  refine add_b a1 h2 rfl fun a2=>?_
  left
  refine add_b a2 (Nat.le_refl 2) rfl fun a3=>?_
  left
  refine str_of hm ?_
  left
  refine octets_of_ok hd.2 (Nat.le_trans hd.1 (by decide)) fun H1 k1=>?_
  have hh:=k1.at0 h
  refine add_b a3 (Nat.le_trans (Nat.le_of_eq (List.length_map ..)) hd.1) rfl fun a4=>?_
  left
  refine add_b a4 (Nat.le_refl 1) rfl fun a5=>?_
  left
  exact add_b a5 h3 rfl fun a6=>hq H1 _ k1 a6
theorem mapM_bytes:∀ (bs:List (List UInt8)),(bs.map V.bytes).mapM bytesOf=some bs
  | []=>rfl
  | a :: r=>by rw [List.map_cons,List.mapM_cons,mapM_bytes r];rfl
theorem join_bytes {i:Nat}{bs:List (List UInt8)} (h:H[i]?=some (.list (bs.map .bytes))) (h1:bs.flatten.length≤lim) (h2:bs.length≤lim) (q:Q (.bytes bs.flatten) H):joinV (.bytes []) (.ref i) H Q :=
  lst_of h ⟨Nat.le_trans (Nat.le_of_eq (List.length_map ..)) h2,.inl ⟨rfl,optK_of (mapM_bytes bs) ⟨h1,q⟩⟩⟩
structure Parts (H0 H:AH) (pr:Nat) (bs:List (List UInt8)) (n m:Nat):Prop where
  at_:H[pr]?=some (.list (bs.map .bytes))
  len:bs.length≤n
  sum:bs.flatten.length≤m
  kp:Kp [pr] H0 H
theorem parts_app {H0 H1:AH}{pr:Nat}{bs:List (List UInt8)} (t:Parts H0 H pr bs n m) (kp:Kp [] H H1) (hb:b.length≤k) (hn:Nat.ble n 1000=true) (hq:∀ H2,Parts H0 H2 pr (bs++[b]) (n+1) (m+k)→Q .none H2):appV (.ref pr) (.bytes b) H1 Q:=by
  refine app_k (kp.at0 t.at_) (Nat.lt_of_le_of_lt (Nat.le_of_eq (List.length_map ..)) (Nat.lt_of_le_of_lt (Nat.le_trans t.len (Nat.le_of_ble_eq_true hn)) (by decide))) fun H2 k2 e2 _=>?_
  refine hq H2 ⟨e2.trans (by rw [List.map_append];rfl),by rw [List.length_append];exact Nat.succ_le_succ t.len,?_,(t.kp.then kp.nil).then k2⟩
  rw [List.flatten_append,List.length_append]
  exact Nat.add_le_add t.sum (by rw [List.flatten_cons,List.flatten_nil,List.append_nil];exact hb)
noncomputable abbrev coB:List S:=[.ex (.app (.l 1) (.bin .add (.bin .add (.c (.bytes [112,97,114,101,110,116,32])) (.fn .octets_of [(.fn .hex_of [(.l 2)])])) (.c (.bytes [10]))))]
theorem co_loop {H0:AH}{ci pl pr:Nat}{row:List Nat}{N:Loc→AH→Prop}{R:V→AH→Prop} (hp:H0[pl]?=some (.list (row.map idv))) (np:pl≠pr) (hr:row.length≤3)
    (hN:∀ H' c bs,Parts H0 H' pr bs 4 65→N [some (.inst .Commit ci),some (.ref pr),c,none,none] H') :
    ∀ (l:List Nat) (fuel p:Nat) (bs:List (List UInt8)) c H,row.drop p=l→l.length < fuel→notCelO c=true→Parts H0 H pr bs (4 - l.length) (65 - 17 * l.length)→l.length≤3 →
    forTurns (.live pl) (asg (orc (d+2)) (.v 2)) (evSs (orc (d+2)) coB) fuel p [some (.inst .Commit ci),some (.ref pr),c,none,none] H N R:=by
  intro l
  induction l with
  | nil =>
    intro fuel p bs c H hd hf nc t hl
    cases fuel with
    | zero=>exact absurd hf (Nat.lt_irrefl _)
    | succ fuel=>exact for_s (lst_of (t.kp.at1 hp np) (optB_no (map_none (drop_nil hd)) (hN H c bs t)))
  | cons j r ih =>
    intro fuel p bs c H hd hf nc t hl
    cases fuel with
    | zero=>exact absurd hf (Nat.not_lt_zero _)
    | succ fuel =>
    obtain ⟨e,hd'⟩:=drop_head hd
    have et:=t.at_
    have hl':r.length+1≤3:=hl
    refine for_s (lst_of (t.kp.at1 hp np) (optB_of (map_some e) ?_))
    left
    refine hex_of_ok (d:=d+1) (b:=idb j) (show 4≤100 by decide) fun H1 s k1 hs hc=>?_
    left
    have hs8:s.length=8:=hs
    refine octets_of_ok (d:=d+1) hc (hs8▸by decide) fun H2 k2=>?_
    refine add_b (n:=7) (m:=8) (Nat.le_refl _) (Nat.le_of_eq ((List.length_map ..).trans hs8)) rfl fun a1=>?_
    left
    refine add_b a1 (Nat.le_refl 1) rfl fun a2=>?_
    refine parts_app (k:=17) t (k1.then k2) (Nat.le_succ_of_le a2) (Nat.ble_eq_true_of_le (Nat.le_trans (Nat.sub_le ..) (by decide))) fun H3 t3=>?_
    left
    refine ih fuel (p+1) (bs++[[112,97,114,101,110,116,32]++List.map UInt8.ofNat s++[10]]) _ H3 hd' (Nat.lt_of_succ_lt_succ hf) rfl ?_ (Nat.le_of_succ_le hl')
    have e1:=(by decide:∀ n,n < 3→4 - (n+1)+1=4 - n) r.length hl'
    have e2:=(by decide:∀ n,n < 3→65 - 17 * (n+1)+17=65 - 17 * n) r.length hl'
    rw [← e1,← e2];exact t3
theorem commit_octets_ok {ci pl a p ex mo:Nat}{tb ms:List UInt8}{row:List Nat} (h:H[ci]?=some (.flds .Commit [(.tree,.bytes tb),(.parents,.ref pl),(.author,.inst .Person a),(.committer,.inst .Person p),(.extra,.ref ex),(.message,.bytes ms)]))
    (hp:H[pl]?=some (.list (row.map idv))) (ha:PerAt H a 5) (hc:PerAt H p mo) (hx:H[ex]?=some (.list [])) (hm:mo≤1010) (htb:tb.length=4) (hr:row.length≤3) (hms:ms.length≤10)
    (hq:∀ H' x,Kp [] H H'→x.length≤200→Q (.bytes (x++ms)) H'):callN (d+3) .commit_octets [.inst .Commit ci] H Q:=by
  refine call_of rfl rfl rfl rfl ?_
  left
  refine hex_of_ok (d:=d+1) (b:=tb) (htb▸by decide) fun H1 s k1 hs hc1=>?_
  left
  have hs8:s.length=8:=hs.trans (htb▸rfl)
  refine octets_of_ok (d:=d+1) hc1 (hs8▸by decide) fun H2 k2=>?_
  refine add_b (n:=5) (m:=8) (Nat.le_refl _) (Nat.le_of_eq ((List.length_map ..).trans hs8)) rfl fun a1=>?_
  left
  refine add_b a1 (Nat.le_refl 1) rfl fun a2=>?_
  left
  refine new_k (lim_of rfl) fun H3 k3 e3 _=>?_
  have k03:=(k1.then k2).then k3
  have hpr:H.length≤H2.length:=(k1.then k2).len
  have out:∀ {i:Nat}{o:AObj},H[i]?=some o→i≠H2.length:=fun h=>Nat.ne_of_lt (Nat.lt_of_lt_of_le (lt_of h) hpr)
  have nin:∀ {i:Nat},i≠H2.length→i∉[H2.length]:=fun n m=>n (mS m)
  have h3:=k03.at0 h
  have hp3:=k03.at0 hp
  have lr:row.length≤3∧14≤65 - 17 * row.length:=⟨hr,by omega⟩
  left
  refine co_loop (H0:=H) (ci:=ci) (pr:=H2.length) hp (out hp) hr (fun H4 c bs t4=>?_) row _ 0 [_] none H3 rfl (Nat.lt_of_le_of_lt hr (by decide)) rfl ⟨e3,?_,?_,k03.nil⟩ hr
  · obtain ⟨_,_,_,fa,_⟩:=id ha
    obtain ⟨_,_,_,fc,_⟩:=id hc
    have h4:=t4.kp.at1 h (out h)
    have fa4:=t4.kp.at1 fa (out fa)
    have e4:=t4.at_
    left
    refine person_octets_ok (d:=d) (ha.keep t4.kp (nin (out fa))) (by decide) fun H5 b5 k5 l5=>?_
    refine add_b (n:=7) (m:=25) (Nat.le_refl _) l5 rfl fun a5=>?_
    left
    refine add_b a5 (Nat.le_refl 1) rfl fun a6=>?_
    refine parts_app t4 k5 a6 rfl fun H6 t6=>?_
    have h6:=t6.kp.at1 h (out h)
    have fc6:=t6.kp.at1 fc (out fc)
    have e6:=t6.at_
    left
    refine person_octets_ok (d:=d) (hc.keep t6.kp (nin (out fc))) hm fun H7 b7 k7 l7=>?_
    refine add_b (n:=10) (m:=25) (Nat.le_refl _) l7 rfl fun a7=>?_
    left
    refine add_b a7 (Nat.le_refl 1) rfl fun a8=>?_
    refine parts_app t6 k7 a8 rfl fun H8 t8=>?_
    have h8:=t8.kp.at1 h (out h)
    have hx8:=t8.kp.at1 hx (out hx)
    have e8:=t8.at_
    left
    refine for_s (n:=1999) (lst_of hx8 (optB_no rfl ?_))
    left
    refine add_b (n:=1) (m:=10) (Nat.le_refl _) hms rfl fun a9=>?_
    refine parts_app t8 .refl a9 rfl fun H9 t9=>?_
    left
    refine join_bytes t9.at_ (Nat.le_trans t9.sum (by decide)) (Nat.le_trans t9.len (by decide)) ?_
    have ts:=t9.sum
    rw [List.flatten_append,List.flatten_cons,List.flatten_nil,List.append_nil,← List.append_assoc] at ts ⊢
    exact hq H9 _ (t9.kp.mono fun i hi m=>absurd (mS m▸hi) (Nat.not_lt.mpr hpr)) (Nat.le_trans (Nat.le_trans (Nat.le_add_right _ _) (Nat.le_trans (Nat.le_of_eq List.length_append.symm) ts)) (by decide))
  · exact Nat.le_trans (by decide:1≤4 - 3) (Nat.sub_le_sub_left hr 4)
  · exact Nat.le_trans (Nat.le_trans (Nat.le_of_eq (by rw [List.flatten_cons,List.flatten_nil,List.append_nil])) a2) lr.2
noncomputable def oct (kd c:List UInt8):List UInt8:=kd++[32]++(digits c.length).map UInt8.ofNat++[0]
theorem object_octets_ok {kd c:List UInt8} (hk:kd.length≤10) (hc:c.length≤1000) (hq:∀ H',Kp [] H H'→Q (.bytes (oct kd c++c)) H'):callN (d+2) .object_octets [.bytes kd,.bytes c] H Q:=by
  have hd:=dig_ok (m:=c.length) (Nat.le_trans hc (by decide))
  refine call_of rfl rfl rfl rfl ?_
  left
  refine add_b hk (Nat.le_refl 1) rfl fun a1=>?_
  left
  refine len_bytes (Nat.le_trans hc (by decide)) ?_
  refine str_of (Nat.le_trans hc (by decide)) ?_
  left
  refine octets_of_ok hd.2 (Nat.le_trans hd.1 (by decide)) fun H' kp=>?_
  refine add_b a1 (Nat.le_trans (Nat.le_of_eq (List.length_map ..)) hd.1) rfl fun a2=>?_
  left
  refine add_b a2 (Nat.le_refl 1) rfl fun a3=>?_
  left
  exact add_b a3 hc rfl fun _=>hq H' kp
end
noncomputable def bid (j:Nat):List UInt8:=[0,0,0,UInt8.ofNat j]
theorem idb_bid (k:Nat):idb k=bid (k+2):=rfl
theorem be_all:∀ n,n < 40→(List.range 4).map (fun x=>(n / 2 ^ (8 * (3 - x))) &&& 255)=[0,0,0,n]:=by decide
theorem big_endian_ok {d n:Nat}{H:AH}{Q:V→AH→Prop} (hn:n < 40) (hq:∀ H',Kp [] H H'→Q (.bytes (bid n)) H'):callN (d+1) .big_endian [nv n,.int 4] H Q:=by
  refine call_of rfl rfl rfl rfl ?_
  left
  refine ⟨by decide,?_⟩
  refine comp_map (List.range 4) nv (fun x=>nv ((n / 2 ^ (8 * (3 - x))) &&& 255)) (fun x=>[some (nv x)]) (fun _=>true) (fun q _ _ z=>z) (fun x _ B q=>.inl ⟨rfl,q⟩) (fun x hx R r=>r) (fun x hx _ R r=>?_) (by decide) ?_
  · have hx4:=List.mem_range.mp hx
    left
    refine mul_l (by decide) ?_
    have e:(8:Int) * (4 - 1 - (x:Int))=((8 * (3 - x):Nat):Int):=by omega
    rw [e]
    refine shr_nat (Nat.lt_of_le_of_lt (Nat.mul_le_mul_left 8 (Nat.sub_le ..)) (by decide)) ?_
    left
    exact band_nat (y:=255) r
  · have e:((List.range 4).filter fun _=>true).map (fun x=>nv ((n / 2 ^ (8 * (3 - x))) &&& 255))=[0,0,0,n].map nv:=by
      rw [← be_all n hn,List.map_map];rfl
    rw [e]
    refine new_k (lim_of rfl) fun H1 k1 e1 _=>?_
    exact bytes_of e1 (fC ⟨by decide,fC ⟨by decide,fC ⟨by decide,fC ⟨Nat.lt_trans hn (by decide),nofun⟩⟩⟩⟩) (by decide:4≤1000) (hq _ k1)
theorem putK_none:∀ {ks:List (K × V)}{k:K}{v:V},ks.lookup k=none→putK ks k v=ks++[(k,v)]
  | [],_,_,_=>rfl
  | (a,w) :: r,k,v,h=>by
    rw [List.lookup_cons] at h
    by_cases q:k=a
    · subst q;simp at h
    · rw [show (k == a)=false from beq_eq_false_iff_ne.mpr q] at h
      unfold putK
      rw [if_neg (Ne.symm q),putK_none h];rfl
theorem lookK_none:∀ {ks:List (K × V)}{k:K},(∀ e∈ks,e.1≠k)→ks.lookup k=none
  | [],_,_=>rfl
  | (a,w) :: r,k,h=>by
    rw [List.lookup_cons,show (k == a)=false from beq_eq_false_iff_ne.mpr (Ne.symm (h (a,w) (List.mem_cons_self ..)))]
    exact lookK_none fun e m=>h e (List.mem_cons_of_mem _ m)
theorem setn_k {H:AH}{l:Nat}{kvs:List (K × V)}{x:V}{b:List UInt8}{U:AH→Prop} (h:H[l]?=some (.dict kvs)) (ha:(kvs.all fun e=>e.1.sameKind (.b []))=true) (hn:kvs.lookup (.b b)=none) (hl:kvs.length≤20) (q:∀ H',Kp [l] H H'→H'[l]?=some (.dict (kvs++[(.b b,x)]))→H'.length=H.length→U H'):setI (.ref l) (.bytes b) x H U :=
  setd_k h rfl (kinds ha) (Nat.lt_of_le_of_lt hl (by decide)) fun H' kp e=>q H' kp (putK_none hn▸e)
theorem digest_ok {d hs hk:Nat}{kn:List (K × V)}{c:List UInt8}{H:AH}{Q:V→AH→Prop} (h1:H[hs]?=some (.flds .CountingHasher [(.size,.int 4),(.known,.ref hk)])) (h2:H[hk]?=some (.dict kn)) (ha:(kn.all fun e=>e.1.sameKind (.b []))=true)
    (hn:kn.lookup (.b c)=none) (hl:kn.length≤20) (hq:∀ H',Kp [hk] H H'→H'[hk]?=some (.dict (kn++[(.b c,nv (kn.length+1))]))→Q (.bytes (bid (kn.length+1))) H'):callN (d+2) .digest [.inst .CountingHasher hs,.bytes c] H Q:=by
  refine call_of rfl rfl rfl rfl ?_
  left
  refine nin_dict h2 rfl (kinds ha) (congrArg Option.isSome hn) (iteB_t rfl ?_)
  left
  refine len_dict h2 (Nat.le_trans hl (by decide)) ?_
  left
  refine setn_k h2 ha hn hl fun H1 k1 e1 _=>?_
  have g1:=k1.at1 h1 (ne_of h1 h2 nofun)
  left
  refine sub_dict e1 rfl (by rw [List.all_append,kinds ha];rfl) (v:=nv (kn.length+1)) (by rw [List.lookup_append,hn,List.lookup_cons,BEq.refl];rfl) ?_
  left
  exact big_endian_ok (Nat.lt_of_le_of_lt (Nat.succ_le_succ hl) (by decide)) fun H2 k2=>hq H2 (k1.then k2.nil) (k2.at0 e1)
theorem keep_ok {d st hs hk kp:Nat}{kn ks:List (K × V)}{kind c:List UInt8}{thing:V}{H:AH}{Q:V→AH→Prop} (h0:H[st]?=some (.flds .MemoryStore [(.hasher,.inst .CountingHasher hs),(.kept,.ref kp)])) (h1:H[hs]?=some (.flds .CountingHasher [(.size,.int 4),(.known,.ref hk)]))
    (h2:H[hk]?=some (.dict kn)) (h3:H[kp]?=some (.dict ks)) (ha:(kn.all fun e=>e.1.sameKind (.b []))=true) (hb:(ks.all fun e=>e.1.sameKind (.b []))=true) (hkl:kind.length≤10) (hcl:c.length≤1000) (hn:∀ x,kn.lookup (.b (x++c))=none)
    (hm:ks.lookup (.b (bid (kn.length+1)))=none) (hl:kn.length≤20) (hl2:ks.length≤20) (hne:hk≠kp) (nt:notCel thing=true)
    (hq:∀ H',Kp [hk,kp] H H'→H'[hk]?=some (.dict (kn++[(.b (oct kind c++c),nv (kn.length+1))]))→H'[kp]?=some (.dict (ks++[(.b (bid (kn.length+1)),.tup [.bytes kind,thing])]))→Q (.bytes (bid (kn.length+1))) H') :
    callN (d+3) .keep [.inst .MemoryStore st,.bytes kind,.bytes c,thing] H Q:=by
  refine call_of rfl rfl rfl rfl ?_
  left
  refine object_octets_ok (d:=d) hkl hcl fun H1 k1=>?_
  have h11:=k1.at0 h1
  left
  refine digest_ok (d:=d) h11 (k1.at0 h2) ha (hn _) hl fun H2 k2 e2=>?_
  have k02:Kp [hk] H H2:=k1.nil.then k2
  have st2:=k02.at1 h0 (ne_of h0 h2 nofun)
  have ks2:=k02.at1 h3 hne.symm
  left
  refine nin_dict ks2 rfl (kinds hb) (congrArg Option.isSome hm) (iteB_t rfl ?_)
  left
  refine setn_k ks2 hb hm hl2 fun H3 k3 e3 _=>?_
  left
  exact hq _ ((k02.one (.head _)).then (k3.one (.tail _ (.head _)))) (k3.at1 e2 hne) e3
theorem person_init_ok {d i:Nat}{a b c e:V}{H:AH}{Q:V→AH→Prop} (h:H[i]?=some (.flds .Person [])) (na:notCel a=true) (nb:notCel b=true) (nc:notCel c=true) (ne:notCel e=true)
    (hq:∀ H',Kp [i] H H'→H'[i]?=some (.flds .Person [(.name,a),(.email,b),(.when,c),(.zone,e)])→Q .none H'):callN (d+1) .person_init [.inst .Person i,a,b,c,e] H Q:=by
  refine call_of rfl rfl rfl rfl ?_
  left
  refine setf_k h (.head _) (Nat.zero_lt_succ _) fun H1 k1 h1 _=>?_
  left
  refine setf_k h1 (.tail _ (.head _)) (show 1 < 100 by decide) fun H2 k2 h2 _=>?_
  left
  refine setf_k h2 (.tail _ (.tail _ (.head _))) (show 2 < 100 by decide) fun H3 k3 h3 _=>?_
  left
  refine setf_k h3 (.tail _ (.tail _ (.tail _ (.head _)))) (show 3 < 100 by decide) fun H4 k4 h4 _=>?_
  left
  exact hq _ (((k1.then k2).then k3).then k4) h4
theorem commit_init_ok {d i:Nat}{a b c e f g:V}{H:AH}{Q:V→AH→Prop} (h:H[i]?=some (.flds .Commit [])) (na:notCel a=true) (nb:notCel b=true) (nc:notCel c=true) (ne:notCel e=true) (nf:notCel f=true) (ng:notCel g=true)
    (hq:∀ H',Kp [i] H H'→H'[i]?=some (.flds .Commit [(.tree,a),(.parents,b),(.author,c),(.committer,e),(.extra,f),(.message,g)])→Q .none H'):callN (d+1) .commit_init [.inst .Commit i,a,b,c,e,f,g] H Q:=by
  refine call_of rfl rfl rfl rfl ?_
  left
  refine setf_k h (.head _) (Nat.zero_lt_succ _) fun H1 k1 h1 _=>?_
  left
  refine setf_k h1 (.tail _ (.head _)) (show 1 < 100 by decide) fun H2 k2 h2 _=>?_
  left
  refine setf_k h2 (.tail _ (.tail _ (.head _))) (show 2 < 100 by decide) fun H3 k3 h3 _=>?_
  left
  refine setf_k h3 (.tail _ (.tail _ (.tail _ (.head _)))) (show 3 < 100 by decide) fun H4 k4 h4 _=>?_
  left
  refine setf_k h4 (.tail _ (.tail _ (.tail _ (.tail _ (.head _))))) (show 4 < 100 by decide) fun H5 k5 h5 _=>?_
  left
  refine setf_k h5 (.tail _ (.tail _ (.tail _ (.tail _ (.tail _ (.head _)))))) (show 5 < 100 by decide) fun H6 k6 h6 _=>?_
  left
  exact hq _ (((((k1.then k2).then k3).then k4).then k5).then k6) h6
theorem tree_init_ok {d i:Nat}{a:V}{H:AH}{Q:V→AH→Prop} (h:H[i]?=some (.flds .Tree [])) (na:notCel a=true)
    (hq:∀ H',Kp [i] H H'→H'[i]?=some (.flds .Tree [(.entries,a)])→Q .none H'):callN (d+1) .tree_init [.inst .Tree i,a] H Q:=by
  refine call_of rfl rfl rfl rfl ?_
  left
  refine setf_k h (.head _) (Nat.zero_lt_succ _) fun H1 k1 h1 _=>?_
  left
  exact hq _ k1 h1
theorem new_kp {H H':AH}{o:AObj} (k:Kp [H.length] (H++[o]) H'):Kp [] H H':=Kp.old .app k fun i m h=>absurd (mS m▸h) (Nat.lt_irrefl _)
theorem write_commit_ok {d st hs hk kp ci pl a p ex mo:Nat}{kn ks:List (K × V)}{tb ms:List UInt8}{row:List Nat}{H:AH}{Q:V→AH→Prop}
    (h0:H[st]?=some (.flds .MemoryStore [(.hasher,.inst .CountingHasher hs),(.kept,.ref kp)])) (h1:H[hs]?=some (.flds .CountingHasher [(.size,.int 4),(.known,.ref hk)]))
    (h2:H[hk]?=some (.dict kn)) (h3:H[kp]?=some (.dict ks)) (hka:(kn.all fun e=>e.1.sameKind (.b []))=true) (hkb:(ks.all fun e=>e.1.sameKind (.b []))=true)
    (hn:∀ x,kn.lookup (.b (x++ms))=none) (hmm:ks.lookup (.b (bid (kn.length+1)))=none) (hl:kn.length≤20) (hl2:ks.length≤20) (hne:hk≠kp)
    (h:H[ci]?=some (.flds .Commit [(.tree,.bytes tb),(.parents,.ref pl),(.author,.inst .Person a),(.committer,.inst .Person p),(.extra,.ref ex),(.message,.bytes ms)]))
    (hp:H[pl]?=some (.list (row.map idv))) (ha:PerAt H a 5) (hc:PerAt H p mo) (hx:H[ex]?=some (.list [])) (hm:mo≤1010) (htb:tb.length=4) (hr:row.length≤3) (hms:ms.length≤10)
    (hq:∀ H' x,Kp [hk,kp] H H'→H'[hk]?=some (.dict (kn++[(.b (x++ms),nv (kn.length+1))]))→H'[kp]?=some (.dict (ks++[(.b (bid (kn.length+1)),.tup [.bytes [99,111,109,109,105,116],.inst .Commit ci])]))→Q (.bytes (bid (kn.length+1))) H') :
    callN (d+4) .write_commit [.inst .MemoryStore st,.inst .Commit ci] H Q:=by
  refine call_of rfl rfl rfl rfl ?_
  left
  refine commit_octets_ok (d:=d) h hp ha hc hx hm htb hr hms fun H1 x k1 hxl=>?_
  left
  refine keep_ok (d:=d) (k1.at0 h0) (k1.at0 h1) (k1.at0 h2) (k1.at0 h3) hka hkb (by decide) (by rw [List.length_append];exact Nat.le_trans (Nat.add_le_add hxl hms) (by decide)) (fun y=>by rw [← List.append_assoc];exact hn _) hmm hl hl2 hne rfl fun H2 k2 e1 e2=>?_
  exact hq H2 (_++x) (k1.nil.then k2) (by rw [e1,List.append_assoc]) e2
noncomputable abbrev kStore:List Nat:=[115,116,111,114,101]
noncomputable abbrev kTree:List Nat:=[116,114,101,101]
noncomputable abbrev kIds:List Nat:=[105,100,115]
noncomputable abbrev kRows:List Nat:=[114,111,119,115]
noncomputable abbrev kTimes:List Nat:=[116,105,109,101,115]
structure Ls where
  w:Nat
  I:Nat
  R:Nat
  T:Nat
  st:Nat
  hs:Nat
  hk:Nat
  kp:Nat
  refs:List Nat
  g:Gr
  ts:List Nat
noncomputable def wkv (L:Ls):List (K × V):=[(.s kStore,.inst .MemoryStore L.st),(.s kTree,.bytes (bid 1)),(.s kIds,.ref L.I),(.s kRows,.ref L.R),(.s kTimes,.ref L.T)]
noncomputable def tOf (ts:List Nat) (k:Nat):Int:=((ts.getD k 0:Nat):Int)
structure LI (H:AH) (B:Nat→Prop) (L:Ls):Prop where
  w:H[L.w]?=some (.dict (wkv L))
  ids:H[L.I]?=some (.list ((List.range L.g.length).map idv))
  rows:RowsAt H L.R L.refs L.g
  times:H[L.T]?=some (.list (L.ts.map nv))
  tl:L.ts.length=L.g.length
  st:H[L.st]?=some (.flds .MemoryStore [(.hasher,.inst .CountingHasher L.hs),(.kept,.ref L.kp)])
  hs:H[L.hs]?=some (.flds .CountingHasher [(.size,.int 4),(.known,.ref L.hk)])
  known:∃ kn:List (K × V),H[L.hk]?=some (.dict kn)∧kn.length=L.g.length+1∧∀ e∈kn,∃ x c y,e.1 = .b (x++[c,y])∧c.toNat < 65+L.g.length
  kept:∃ ks:List (K × V),H[L.kp]?=some (.dict ks)∧ks.length=L.g.length+1∧(∀ e∈ks,∃ j,j < L.g.length+2∧e.1 = .b (bid j))∧∀ k,k < L.g.length→ComAt H B ks L.g (tOf L.ts) k
  bst:B L.st
  bkp:B L.kp
  bb:∀ i,B i→i < H.length
  nI:¬ B L.I
  nR:¬ B L.R
  nT:¬ B L.T
  rI:∀ r∈L.refs,r≠L.I∧r≠L.R∧r≠L.T
  dIR:L.I≠L.R
  dIT:L.I≠L.T
  dRT:L.R≠L.T
  dk:L.hk≠L.kp
  dw:L.w≠L.hk∧L.w≠L.kp
  n:L.g.length≤6
section
variable {H:AH}{L:Ls}{Q:V→AH→Prop} (h:H[L.w]?=some (.dict (wkv L)))
include h
theorem w_store (q:Q (.inst .MemoryStore L.st) H):subV (.ref L.w) (.str kStore) H Q:=sub_dict h rfl rfl rfl q
theorem w_tree (q:Q (.bytes (bid 1)) H):subV (.ref L.w) (.str kTree) H Q:=sub_dict h rfl rfl rfl q
theorem w_ids (q:Q (.ref L.I) H):subV (.ref L.w) (.str kIds) H Q:=sub_dict h rfl rfl rfl q
theorem w_rows (q:Q (.ref L.R) H):subV (.ref L.w) (.str kRows) H Q:=sub_dict h rfl rfl rfl q
theorem w_times (q:Q (.ref L.T) H):subV (.ref L.w) (.str kTimes) H Q:=sub_dict h rfl rfl rfl q
end
theorem sub_ids {H:AH}{I n k:Nat}{Q:V→AH→Prop} (h:H[I]?=some (.list ((List.range n).map idv))) (hk:k < n) (hn:n≤1000) (q:Q (idv k) H):subV (.ref I) (nv k) H Q :=
  sub_list h (ids_lim (Nat.le_trans (Nat.le_of_eq List.length_range) hn)) (map_some (List.getElem?_range hk)) rfl q
theorem bid_inj {i j:Nat} (hi:i < 250) (hj:j < 250) (h:bid i=bid j):i=j:=by
  unfold bid at h
  simp only [List.cons.injEq,and_true,true_and] at h
  have:=congrArg UInt8.toNat h
  simp at this
  omega
theorem ComAt.push {H:AH}{P:Nat→Prop}{ks:List (K × V)}{g:Gr}{ts row:List Nat}{m k:Nat}{e:K × V} (c:ComAt H P ks g (tOf ts) k) (hk:k < g.length) (ht:ts.length=g.length):ComAt H P (ks++[e]) (g++[row]) (tOf (ts++[m])) k:=by
  obtain ⟨c,h1,x,p⟩:=c
  refine ⟨c,by rw [List.lookup_append,h1];rfl,⟨x.h2,by rw [par_app_lt hk];exact x.h3,?_,x.h5⟩,p⟩
  have:tOf (ts++[m]) k=tOf ts k:=by
    unfold tOf
    simp only [List.getD]
    rw [List.getElem?_append_left (ht▸hk)]
  rw [this];exact x.h4
theorem tOf_last {ts:List Nat}{m:Nat}:tOf (ts++[m]) ts.length=(m:Int):=by unfold tOf;simp [List.getD]
noncomputable def Ls.push (L:Ls) (rr:Nat) (row:List Nat) (m:Nat):Ls:={ L with refs:=L.refs++[rr],g:=L.g++[row],ts:=L.ts++[m] }
theorem content_new {n:Nat}{kn:List (K × V)} (hn:n≤20) (h:∀ e∈kn,∃ x c y,e.1 = .b (x++[c,y])∧c.toNat < 65+n) (x:List UInt8):kn.lookup (.b (x++[109,UInt8.ofNat (65+n),10]))=none:=by
  refine lookK_none fun e m q=>?_
  obtain ⟨y,c,z,e1,e2⟩:=h e m
  rw [e1] at q
  have q:=K.b.inj q
  have:x++[109,UInt8.ofNat (65+n),10]=(x++[109])++[UInt8.ofNat (65+n),10]:=by simp
  rw [this] at q
  have q2:=(List.append_inj' q rfl).2
  simp only [List.cons.injEq,and_true] at q2
  have:=congrArg UInt8.toNat q2.1
  simp at this
  omega
local macro_rules | `(tactic| fail) => `(tactic| with_reducible first | refine w_store (by assumption) ?_ | refine w_tree (by assumption) ?_ | refine w_ids (by assumption) ?_ | refine w_rows (by assumption) ?_ | refine w_times (by assumption) ?_)
theorem all_kind {ks:List (K × V)} (h:∀ e∈ks,∃ b,e.1 = .b b):(ks.all fun e=>e.1.sameKind (.b []))=true:=by
  rw [List.all_eq_true]
  intro e m
  obtain ⟨b,e1⟩:=h e m
  rw [e1];rfl
theorem LI.knk {H:AH}{B:Nat→Prop}{L:Ls} (X:LI H B L) {kn:List (K × V)} (h:H[L.hk]?=some (.dict kn)):kn.length=L.g.length+1∧(kn.all fun e=>e.1.sameKind (.b []))=true∧∀ e∈kn,∃ x c y,e.1 = .b (x++[c,y])∧c.toNat < 65+L.g.length:=by
  obtain ⟨kn',a,b,c⟩:=X.known
  rw [h] at a
  cases a
  exact ⟨b,all_kind fun e m=>by obtain ⟨x,y,z,q,_⟩:=c e m;exact ⟨_,q⟩,c⟩
theorem LI.sto {H:AH}{B:Nat→Prop}{L:Ls} (X:LI H B L):StI H B L.st L.kp L.g (tOf L.ts):=by
  obtain ⟨ks,a,b,c,e⟩:=X.kept
  exact ⟨⟨_,X.st⟩,⟨ks,a,all_kind fun e m=>by obtain ⟨j,_,q⟩:=c e m;exact ⟨_,q⟩,e⟩,X.bst,X.bkp⟩
noncomputable abbrev kCommit:List UInt8:=[99,111,109,109,105,116]
theorem kept_none {ks:List (K × V)}{n m:Nat} (hn:n≤20) (h:∀ e∈ks,∃ j,j < n+2∧e.1 = .b (bid j)) (hm:m=n+2):ks.lookup (.b (bid m))=none:=by
  refine lookK_none fun e me q=>?_
  obtain ⟨j,hj,e1⟩:=h e me
  rw [e1] at q
  have:=bid_inj (Nat.lt_trans hj (Nat.lt_of_le_of_lt (Nat.add_le_add_right hn 2) (by decide))) (hm▸Nat.lt_of_le_of_lt (Nat.add_le_add_right hn 2) (by decide)) (K.b.inj q)
  exact Nat.lt_irrefl _ (hm▸this▸hj)
theorem range_push {n:Nat}:(List.range n).map idv++[idv n]=(List.range (n+1)).map idv:=by rw [List.range_succ,List.map_append];rfl
theorem LI.grow {H H3 H6:AH}{B:Nat→Prop}{L:Ls}{rr m:Nat}{row:List Nat}{kn ks:List (K × V)}{x:List UInt8}{c:CR} (X:LI H B L) (hkn:H[L.hk]?=some (.dict kn)) (hks:H[L.kp]?=some (.dict ks)) (kst:∀ e∈ks,∃ j,j < L.g.length+2∧e.1 = .b (bid j)) (ksl:ks.length=L.g.length+1)
    (ksc:∀ k,k < L.g.length→ComAt H B ks L.g (tOf L.ts) k) (k3:Kp [L.hk,L.kp] H H3) (k36:Kp [L.I,L.R,L.T] H3 H6) (hn:L.g.length≤5) (r1:rr≠L.I∧rr≠L.R∧rr≠L.T)
    (g1:H3[L.hk]?=some (.dict (kn++[(.b (x++[109,UInt8.ofNat (65+L.g.length),10]),nv (kn.length+1))]))) (g2:H3[L.kp]?=some (.dict (ks++[(.b (bid (kn.length+1)),.tup [.bytes kCommit,.inst .Commit c.ci])])))
    (cf:ComIs H3 (L.g++[row]) (tOf (L.ts++[m])) L.g.length c) (o1:H.length≤c.ci) (o2:H.length≤c.pl) (o3:H.length≤c.pi) (w6:H6[L.w]?=some (.dict (wkv L))) (I6:H6[L.I]?=some (.list ((List.range (L.g.length+1)).map idv))) (R6:RowsAt H6 L.R (L.refs++[rr]) (L.g++[row])) (T6:H6[L.T]?=some (.list ((L.ts++[m]).map nv))) :
    LI H6 (fun i=>B i∨i=c.ci∨i=c.pl∨i=c.pi) (L.push rr row m):=by
  obtain ⟨knl,kna,knt⟩:=X.knk hkn
  have hgl:(L.g++[row]).length=L.g.length+1:=List.length_append
  have d3:∀ {i:Nat}{o:AObj},H[i]?=some o→(∀ f,o≠.dict f)→H3[i]?=some o:=fun h n=>k3.at2 h (ne_of h hkn (n _)) (ne_of h hks (n _))
  have k6:∀ {i:Nat}{o:AObj},H3[i]?=some o→(∀ f,o≠.list f)→H6[i]?=some o:=fun h n=>k36.at h fun mi=>(mZ mi).elim (ne_of h (d3 X.ids nofun) (n _)) fun mi=>(mZ mi).elim (ne_of h (d3 X.rows.l nofun) (n _)) fun mi=>ne_of h (d3 X.times nofun) (n _) (mS mi)
  have new6:∀ {i:Nat}{o:AObj},H3[i]?=some o→H.length≤i→H6[i]?=some o:=fun h n=>k36.at h fun mi=>(mZ mi).elim (fun z=>lt_no n (z▸lt_of X.ids)) fun mi=>(mZ mi).elim (fun z=>lt_no n (z▸lt_of X.rows.l)) fun mi=>lt_no n (mS mi▸lt_of X.times)
  have h2:=new6 cf.h2 o1
  have h3:=new6 cf.h3 o2
  have h4:=new6 cf.h4 o3
  have k06:Kp [L.I,L.R,L.T,L.hk,L.kp] H H6:=(k3.trans k36).mono fun i _ mi=>by
    rcases mA mi with mi | mi
    · exact .tail _ (.tail _ (.tail _ mi))
    · exact List.mem_append_left (bs:=[L.hk,L.kp]) mi
  have old:∀ {i:Nat},i < H.length→¬ B i→¬ (B i∨i=c.ci∨i=c.pl∨i=c.pi):=fun hi n p=>p.elim n fun p=>p.elim (fun z=>lt_no o1 (z▸hi)) fun p=>p.elim (fun z=>lt_no o2 (z▸hi)) fun z=>lt_no o3 (z▸hi)
  exact {
    w:=w6
    ids:=hgl▸I6
    rows:=R6
    times:=T6
    tl:=by show (L.ts++[m]).length=(L.g++[row]).length;rw [List.length_append,List.length_append,X.tl];rfl
    st:=k6 (d3 X.st nofun) nofun
    hs:=k6 (d3 X.hs nofun) nofun
    known:=by
      refine ⟨_,k6 g1 nofun,by show _=(L.g++[row]).length+1;rw [hgl,List.length_append,knl];rfl,fun e me=>?_⟩
      show ∃ (x:List UInt8) (c y:UInt8),e.1=K.b (x++[c,y])∧c.toNat < 65+(L.g++[row]).length
      rw [hgl]
      rcases mA me with me | me
      · obtain ⟨x,c,y,e1,e2⟩:=knt e me
        exact ⟨x,c,y,e1,Nat.lt_succ_of_lt e2⟩
      · rw [mS me]
        refine ⟨x++[109],UInt8.ofNat (65+L.g.length),10,by rw [List.append_assoc];rfl,?_⟩
        rw [UInt8.toNat_ofNat_of_lt' (show 65+L.g.length < 256 by omega)]
        exact Nat.lt_succ_self _
    kept:=by
      refine ⟨_,k6 g2 nofun,by show _=(L.g++[row]).length+1;rw [hgl,List.length_append,ksl];rfl,fun e me=>?_,fun k hk=>?_⟩
      · show ∃ j,j < (L.g++[row]).length+2∧_
        rw [hgl]
        rcases mA me with me | me
        · obtain ⟨j,e1,e2⟩:=kst e me
          exact ⟨j,Nat.lt_succ_of_lt e1,e2⟩
        · rw [mS me]
          exact ⟨_,by rw [knl];exact Nat.lt_succ_self _,rfl⟩
      · have hk:k < (L.g++[row]).length:=hk
        rw [hgl] at hk
        show ComAt H6 _ _ (L.g++[row]) (tOf (L.ts++[m])) k
        by_cases hkl:k < L.g.length
        · refine ComAt.push ((ksc k hkl).keep k06 (fun i mi bi=>?_) fun i bi=>.inl bi) hkl X.tl
          rcases mZ mi with z | mi
          · exact absurd (z▸bi) X.nI
          rcases mZ mi with z | mi
          · exact absurd (z▸bi) X.nR
          rcases mZ mi with z | mi
          · exact absurd (z▸bi) X.nT
          rcases mZ mi with z | mi
          · exact ⟨_,z▸hkn⟩
          · exact ⟨_,mS mi▸hks⟩
        · cases Nat.le_antisymm (Nat.le_of_lt_succ hk) (Nat.not_lt.mp hkl)
          refine ⟨c,?_,⟨h2,h3,h4,cf.h5⟩,.inr (.inl rfl),.inr (.inr (.inl rfl)),.inr (.inr (.inr rfl))⟩
          rw [List.lookup_append,idb_bid,kept_none (Nat.le_trans hn (by decide)) kst rfl,knl,List.lookup_cons,BEq.refl];rfl
    bst:=.inl X.bst
    bkp:=.inl X.bkp
    bb:=fun i p=>p.elim (fun p=>Nat.lt_of_lt_of_le (X.bb i p) k06.len) fun p=>p.elim (fun z=>z▸lt_of h2) fun p=>p.elim (fun z=>z▸lt_of h3) fun z=>z▸lt_of h4
    nI:=old (lt_of X.ids) X.nI
    nR:=old (lt_of X.rows.l) X.nR
    nT:=old (lt_of X.times) X.nT
    rI:=fun r mr=>(mA mr).elim (X.rI r) fun mr=>mS mr▸r1
    dIR:=X.dIR
    dIT:=X.dIT
    dRT:=X.dRT
    dk:=X.dk
    dw:=X.dw
    n:=by show (L.g++[row]).length≤6;rw [hgl];exact Nat.succ_le_succ hn }
theorem committed_ok {d rr m:Nat}{row:List Nat}{H:AH}{B:Nat→Prop}{L:Ls}{Q:V→AH→Prop} (X:LI H B L) (hr:H[rr]?=some (.list (row.map nv))) (wf:∀ j∈row,j < L.g.length) (deg:row.length≤3) (hm:m≤1010) (hn:L.g.length≤5)
    (r1:rr≠L.I∧rr≠L.R∧rr≠L.T)
    (hq:∀ H' B',Kp [L.I,L.R,L.T,L.hk,L.kp] H H'→LI H' B' (L.push rr row m)→(∀ i,B' i→B i∨H.length≤i)→Q .none H'):callN (d+6) .committed [.ref L.w,.ref rr,nv m] H Q:=by
  have hn6:L.g.length≤1000:=Nat.le_trans hn (by decide)
  refine call_of rfl rfl rfl rfl ?_
  left
  refine person_init_ok (d:=d+4) get_new rfl rfl rfl rfl fun H1 k1 e1=>?_
  have k1:=new_kp k1
  left
  refine person_init_ok (d:=d+4) get_new rfl rfl rfl rfl fun H2 k2 e2=>?_
  have k2:=new_kp k2
  have k02:=k1.then k2
  have w2:=k02.at0 X.w
  have ids2:=k02.at0 X.ids
  left
  refine len_list ids2 (ids_lim (Nat.le_trans (Nat.le_of_eq List.length_range) hn6)) ?_
  rw [List.length_map,List.length_range]
  left
  refine new_k (lim_of rfl) fun H3 k3 e3 _=>?_
  refine bytes_of (s:=[65+L.g.length]) e3 (fC ⟨Nat.lt_of_le_of_lt (Nat.add_le_add_left hn 65) (by decide),nofun⟩) (by decide:1≤1000) ?_
  refine add_b (n:=1) (m:=1) (Nat.le_refl _) (Nat.le_refl _) rfl fun a1=>?_
  left
  refine add_b a1 (Nat.le_refl 1) rfl fun a2=>?_
  have k03:=k02.then k3
  have w3:=k03.at0 X.w
  have st3:=k03.at0 X.st
  have rr3:=k03.at0 hr
  have ids3:=k03.at0 X.ids
  left
  refine comp_map row nv idv (fun j=>[some (nv j)]) (fun _=>true) (it_live rr3) (fun x _ B q=>.inl ⟨rfl,q⟩) (fun x hx R r=>r) (fun x hx _ R r=>?_) (Nat.lt_of_le_of_lt deg (by decide)) ?_
  · left
    exact sub_ids ids3 (wf x hx) hn6 r
  rw [List.filter_eq_self.mpr fun _ _=>rfl]
  refine new_k (ids_lim (Nat.le_trans deg (by decide))) fun H4 k4 e4 _=>?_
  left
  refine new_k (lim_of rfl) fun H5 k5 e5 _=>?_
  left
  refine commit_init_ok (d:=d+4) get_new rfl rfl rfl rfl rfl rfl fun H6 k6 e6=>?_
  have k6:=new_kp k6
  have k46:=k5.then k6
  have k36:=k4.then k46
  have k06:=k03.then k36
  obtain ⟨kn,hkn,_⟩:=X.known
  obtain ⟨knl,kna,knt⟩:=X.knk hkn
  obtain ⟨ks,hks,ksl,kst,ksc⟩:=X.kept
  have k16:=k2.then (k3.then k36)
  have p26:=(k3.then k36).at0 e2
  have l1:kn.length≤20:=knl▸Nat.le_trans (Nat.succ_le_succ hn) (by decide)
  have st6:=k06.at0 X.st
  left
  refine write_commit_ok (d:=d+1) st6 (k06.at0 X.hs) (k06.at0 hkn) (k06.at0 hks) kna (all_kind fun e me=>by obtain ⟨j,_,q⟩:=kst e me;exact ⟨_,q⟩) (content_new (n:=L.g.length) (Nat.le_trans hn (by decide)) knt) (kept_none (Nat.le_trans hn (by decide)) kst (by rw [knl])) l1 (ksl▸knl▸l1) X.dk e6 (k46.at0 e4) ⟨_,_,_,k16.at0 e1,by decide,by decide,by decide⟩ ⟨_,_,_,p26,by decide,by decide,by decide⟩ (k6.at0 e5) hm rfl deg (show 3≤10 by decide) fun H7 x k7 g1 g2=>?_
  have hidv:(V.bytes (bid (kn.length+1)))=idv L.g.length:=by show _=V.bytes (idb L.g.length);rw [idb_bid,knl]
  rw [hidv]
  have k07:Kp [L.hk,L.kp] H H7:=k06.nil.then k7
  have old:∀ {i:Nat}{o:AObj},H6[i]?=some o→H.length≤i→H7[i]?=some o:=fun h n=>k7.at2 h (fun z=>lt_no n (z▸lt_of hkn)) fun z=>lt_no n (z▸lt_of hks)
  have z1:=k1.len
  have z3:=k03.len
  have z5:=Nat.le_trans z3 (k4.then k5).len
  have ne3:∀ {i:Nat}{o:AObj},H[i]?=some o→(∀ f,o≠.dict f)→H7[i]?=some o:=fun h n=>k07.at2 h (ne_of h hkn (n _)) (ne_of h hks (n _))
  have w7:=k07.at2 X.w X.dw.1 X.dw.2
  have ids7:=ne3 X.ids nofun
  have R7:RowsAt H7 L.R L.refs L.g:=⟨ne3 X.rows.l nofun,X.rows.len,fun k r e=>ne3 (X.rows.row k r e) nofun⟩
  have T7:=ne3 X.times nofun
  have rr7:=ne3 hr nofun
  left
  refine app_k ids7 (ids_lt (Nat.le_trans (Nat.le_of_eq List.length_range) hn6)) fun H8 k8 e8 _=>?_
  have w8:=k8.at1 w7 (ne_of w7 ids7 nofun)
  have R8:=R7.keep k8 (fun z=>X.dIR (mS z).symm) fun r m z=>(X.rI r m).1 (mS z)
  have Rl8:=R8.l
  left
  refine app_k Rl8 (Nat.lt_of_le_of_lt (Nat.le_of_eq ((List.length_map ..).trans X.rows.len)) (Nat.lt_of_le_of_lt hn (by decide))) fun H9 k9 e9 _=>?_
  have R9:=R8.push (k8.at1 rr7 r1.1) r1.2.1 (fun r m=>(X.rI r m).2.1) k9 (e9.trans (by rw [List.map_append];rfl))
  have w9:=k9.at1 w8 (ne_of w8 Rl8 nofun)
  have T9:=k9.at1 (k8.at1 T7 X.dIT.symm) X.dRT.symm
  left
  refine app_k T9 (Nat.lt_of_le_of_lt (Nat.le_of_eq ((List.length_map ..).trans X.tl)) (Nat.lt_of_le_of_lt hn (by decide))) fun HA kA eA _=>?_
  left
  refine hq HA _ ?_ (X.grow (row:=row) (m:=m) (rr:=rr) (c:=⟨H5.length,H1.length,H3.length,_,_,_,_,_,_,_⟩) hkn hks kst ksl ksc k07 (((k8.one (.head _)).then (k9.one (.tail _ (.head _)))).then (kA.one (.tail _ (.tail _ (.head _))))) hn r1 g1 g2
    ⟨old e6 z5,(old (k46.at0 e4) z3).trans (by rw [par_app_eq]),(old p26 z1).trans (by rw [← X.tl,tOf_last]),rfl⟩ z5 z3 z1 (kA.at1 w9 (ne_of w9 T9 nofun)) (kA.at1 (k9.at1 (e8.trans (congrArg (fun z=>some (AObj.list z)) range_push)) X.dIR) X.dIT) (R9.keep kA (fun z=>X.dRT (mS z)) fun r m z=>(mA m).elim (fun m=>(X.rI r m).2.2 (mS z)) fun m=>r1.2.2 (mS m▸mS z)) (eA.trans (by rw [List.map_append];rfl))) fun i p=>p.elim .inl fun p=>.inr (p.elim (fun z=>z▸z5) fun p=>p.elim (fun z=>z▸z3) fun z=>z▸z1)
  have mI:L.I∈[L.I,L.R,L.T,L.hk,L.kp]:=.head _
  exact (((k07.two (.tail _ (.tail _ (.tail _ (.head _)))) (.tail _ (.tail _ (.tail _ (.tail _ (.head _)))))).then (k8.one mI)).then (k9.one (.tail _ (.head _)))).then (kA.one (.tail _ (.tail _ (.head _))))
theorem putA_some {f:List (Nat × V)}{k j:Nat}{v:V}:((putA f k v).lookup j).isSome=((f.lookup j).isSome || j == k):=by
  induction f with
  | nil=>show (([(k,v)]:List (Nat × V)).lookup j).isSome=_;rw [List.lookup_cons];cases h:j == k<;>rfl
  | cons p r ih =>
    obtain ⟨a,w⟩:=p
    unfold putA
    by_cases q:a=k
    · subst q
      rw [if_pos rfl,List.lookup_cons,List.lookup_cons]
      cases h:j == a<;>simp
    · rw [if_neg q,List.lookup_cons,List.lookup_cons]
      cases h:j == a with
      | true=>simp
      | false=>exact ih
noncomputable def shF (f:List (Nat × V)):List Nat→List (Nat × V)
  | []=>f
  | k :: r=>shF (putA f k (.bool true)) r
theorem shF_look:∀ {l:List Nat}{f:List (Nat × V)}{j:Nat},((shF f l).lookup j).isSome=((f.lookup j).isSome || l.contains j)
  | [],f,j=>(Bool.or_false _).symm
  | k :: r,f,j=>by
    show ((shF (putA f k (.bool true)) r).lookup j).isSome=_
    rw [shF_look,putA_some,List.contains_cons,Bool.or_assoc]
theorem shF_keys:∀ {l:List Nat}{f:List (Nat × V)},(∀ p∈f,p.1 < 250)→(∀ k∈l,k < 250)→∀ p∈shF f l,p.1 < 250
  | [],f,h,_=>h
  | k :: r,f,h,hl=>shF_keys (l:=r) (f:=putA f k (.bool true)) (fun p m=>(putA_mem m).elim (h p) fun z=>z▸hl k (List.mem_cons_self ..)) fun x m=>hl x (List.mem_cons_of_mem _ m)
theorem putA_len {f:List (Nat × V)}{k:Nat}{v:V}:(putA f k v).length≤f.length+1:=by
  induction f with
  | nil=>exact Nat.le_refl _
  | cons a r ih=>unfold putA;split;exact Nat.le_succ _;exact Nat.succ_le_succ ih
theorem anc_run {d i st:Nat}{bd:List Nat}{H:AH}{Q:V→AH→Prop} (h:H[i]?=some (.flds .Walk [])) (hb:∀ k∈bd,k < 250) (hl:bd.length≤10)
    (hq:∀ H' sh kn lv,Kp [i] H H'→H'[i]?=some (.flds .Walk [(.store,.inst .MemoryStore st),(.shallow,.ref sh),(.known,.ref kn),(.levels,.ref lv)])→H'[sh]?=some (.dict (dB (shF [] bd))) →
      H'[kn]?=some (.dict [])→H'[lv]?=some (.dict [])→H.length≤sh→sh < kn→kn < lv→Q .none H') :
    evSs (orc d) b_anc_init [some (.inst .Walk i),some (.inst .MemoryStore st),some (.tup (bd.map idv)),none] H (fun _ H=>Q .none H) Q fun _ _=>False:=by
  have hi:=lt_of h
  unfold b_anc_init
  left
  refine setf_k h (.head _) (Nat.zero_lt_succ _) fun H1 k1 h1 l1=>?_
  left
  refine dct_k rfl fun H2 k2 e2 l2=>?_
  have ni:H1.length≠i:=(ne_old h1).symm
  left
  refine setf_k (k2.at0 h1) (.tail _ (.head _)) (show 1 < 100 by decide) fun H3 k3 h3 l3=>?_
  have e3:=k3.at1 e2 ni
  left
  suffices loop:∀ (l:List Nat) (n p:Nat) (f:List (Nat × V)) c H',bd.drop p=l→l.length < n→notCelO c=true→Kp [H1.length] H3 H'→H'[H1.length]?=some (.dict (dB f))→(∀ p∈f,p.1 < 250)→f.length+l.length≤10→shF f l=shF [] bd →
      forTurns (.vals (bd.map idv)) (asg (orc d) (.v 3)) (evSs (orc d) [.asg (.sb (.attr (.l 0) .shallow) (.l 3)) (.c (.bool true))]) n p [some (.inst .Walk i),some (.inst .MemoryStore st),some (.tup (bd.map idv)),c] H' (fun loc H=>evSs (orc d) [.asg (.at (.l 0) .known) (.dct []),.asg (.at (.l 0) .levels) (.dct [])] loc H (fun _ H=>Q .none H) Q fun _ _=>False) Q from
    loop bd _ 0 [] none H3 rfl (Nat.lt_of_le_of_lt hl (by decide)) rfl .refl e3 nofun ((Nat.zero_add _).symm▸hl) rfl
  intro l
  induction l with
  | nil =>
    intro n p f c H4 hd hn nc k4 e4 hf hfl hF
    cases n with
    | zero=>exact absurd hn (Nat.lt_irrefl _)
    | succ n =>
    have h4:=k4.at1 h3 ni.symm
    refine for_s (optB_no (map_none (drop_nil hd)) ?_)
    left
    refine dct_k rfl fun H5 k5 e5 l5=>?_
    have n5:H4.length≠i:=(ne_old h4).symm
    left
    refine setf_k (k5.at0 h4) (.tail _ (.tail _ (.head _))) (show 2 < 100 by decide) fun H6 k6 h6 l6=>?_
    left
    refine dct_k rfl fun H7 k7 e7 l7=>?_
    left
    refine setf_k (k7.at0 h6) (.tail _ (.tail _ (.tail _ (.head _)))) (show 3 < 100 by decide) fun H8 k8 h8 l8=>?_
    left
    have n7:H6.length≠i:=(ne_old h6).symm
    have hF:f=shF [] bd:=hF
    have e8:=k8.at1 (k7.at0 (k6.at1 (k5.at0 e4) ni)) ni
    have k48:Kp [i] H4 H8:=(k5.nil.then k6).then (k7.nil.then k8)
    have k03:Kp [i] H H3:=k1.then (k2.nil.then k3)
    exact hq H8 H1.length H4.length H6.length ((k03.old k4 fun j m hj=>lt_no (Nat.le_of_eq l1.symm) (mS m▸hj)).then k48) h8 (hF▸e8) (k8.at1 (k7.at0 (k6.at1 e5 n5)) n5) (k8.at1 e7 n7) (Nat.le_of_eq l1.symm) (lt_of e4) (Nat.lt_of_lt_of_eq (lt_of e5) l6.symm)
  | cons x r ih =>
    intro n p f c H4 hd hn nc k4 e4 hf hfl hF
    cases n with
    | zero=>exact absurd hn (Nat.not_lt_zero _)
    | succ n =>
    obtain ⟨e,hd'⟩:=drop_head hd
    have hx:=hb x (List.mem_of_getElem? e)
    have h4:=k4.at1 h3 ni.symm
    refine for_s (optB_of (map_some e) ?_)
    left
    refine dB_setk e4 hf hx (Nat.lt_of_le_of_lt (Nat.le_of_add_right_le hfl) (by decide)) fun H5 k5 e5 _=>?_
    left
    exact ih n (p+1) _ _ H5 hd' (Nat.lt_of_succ_lt_succ hn) rfl (k4.then k5) e5 (fun p m=>(putA_mem m).elim (hf p) fun z=>z▸hx) (Nat.le_trans (Nat.add_le_add_right putA_len _) (Nat.le_trans (Nat.le_of_eq ((Nat.add_assoc ..).trans (congrArg _ (Nat.add_comm ..)))) hfl)) hF
theorem cut_len (g:Gr) (bd:List Nat):(cut g bd).length=g.length:=by unfold cut;simp
theorem cut_par {g:Gr}{bd:List Nat}{k:Nat} (hk:k < g.length):par (cut g bd) k=if bd.contains k then [] else par g k:=by
  unfold par cut
  simp only [List.getD,List.getElem?_mapIdx]
  rw [List.getElem?_eq_getElem hk]
  simp
theorem cut_nil (g:Gr):cut g []=g:=by
  apply List.ext_getElem?
  intro k
  unfold cut
  rw [List.getElem?_mapIdx]
  cases g[k]?<;>simp
theorem new_walk_ok {d:Nat}{bd:List Nat}{vs:List V}{H:AH}{B:Nat→Prop}{L:Ls}{Q:V→AH→Prop} (X:LI H B L) (wf:wfB L.g=true) (hb:∀ k∈bd,k < 250) (hl:bd.length≤10)
    (hv:(vs=[.inst .MemoryStore L.st]∧bd=[])∨vs=[.inst .MemoryStore L.st,.tup (bd.map idv)])
    (hq:∀ H' P W,Kp [] H H'→WI H' P W→W.w=H.length→W.g0=L.g→W.g=cut L.g bd→W.t=tOf L.ts→(∀ i,P i→B i∨H.length≤i)→H.length≤W.kn→H.length≤W.lv→Q .none H'):callN (d+1) .anc_init (.inst .Walk H.length :: vs) (H++[.flds .Walk []]) Q:=by
  have run:=anc_run (d:=d) (i:=H.length) (st:=L.st) (Q:=Q) (get_new (H:=H)) hb hl fun H' sh kn lv kp h1 h2 h5 h6 l1 l4 l5=>by
    have hlen:(H++[AObj.flds .Walk []]).length=H.length+1:=List.length_append
    rw [hlen] at l1
    have z1:H.length≤sh:=Nat.le_of_succ_le l1
    have z2:H.length≤kn:=Nat.le_trans z1 (Nat.le_of_lt l4)
    have z3:H.length≤lv:=Nat.le_trans z2 (Nat.le_of_lt l5)
    have kp0:=new_kp kp
    obtain ⟨⟨hs,f1⟩,⟨ks,f2,f3,f4⟩,f5,f6⟩:=X.sto
    have hn8:=Nat.le_trans X.n (show 6≤8 by decide)
    refine hq H' (fun i=>B i∨i=H.length∨i=sh∨i=kn∨i=lv) ⟨H.length,L.st,L.kp,sh,kn,lv,L.g,cut L.g bd,bd,tOf L.ts⟩ kp0 ?_ rfl rfl rfl rfl (fun i p=>p.elim .inl fun p=>.inr (p.elim (fun z=>Nat.le_of_eq z.symm) fun p=>p.elim (fun z=>z▸z1) fun p=>p.elim (fun z=>z▸z2) fun z=>z▸z3)) z2 z3
    exact {
      sto:=⟨⟨hs,kp0.at0 f1⟩,⟨ks,kp0.at0 f2,f3,fun k hk=>(f4 k hk).keep kp0 nofun fun i p=>.inl p⟩,.inl f5,.inl f6⟩
      len:=cut_len _ _
      n:=hn8
      cut:=fun k hk=>cut_par hk
      wf:=fun k hk=>(wf_of wf hk).1
      deg:=fun k hk=>(wf_of wf hk).2
      fl:=h1
      shl:=⟨dB (shF [] bd),h2,dB_all _ _,fun k hk=>by
        have hk:k < L.g.length:=hk
        rw [dB_lookup (shF_keys (f:=[]) nofun hb) (Nat.lt_of_lt_of_le hk (Nat.le_trans hn8 (by decide))),shF_look]
        exact Bool.false_or _⟩
      kno:=⟨[],h5,List.nodup_nil,nofun⟩
      lvl:=⟨[],h6,List.nodup_nil,nofun⟩
      pw:=.inr (.inl rfl)
      psh:=.inr (.inr (.inl rfl))
      pkn:=.inr (.inr (.inr (.inl rfl)))
      plv:=.inr (.inr (.inr (.inr rfl)))
      bound:=fun i p=>p.elim (fun p=>Nat.lt_of_lt_of_le (X.bb i p) kp0.len) fun p=>p.elim (fun z=>z▸lt_of h1) fun p=>p.elim (fun z=>z▸lt_of h2) fun p=>p.elim (fun z=>z▸lt_of h5) fun z=>z▸lt_of h6
      d1:=Nat.ne_of_lt l5
      d2:=Nat.ne_of_gt l4
      d3:=Nat.ne_of_gt (Nat.lt_trans l4 l5)
      d4:=Nat.ne_of_gt (Nat.lt_of_lt_of_le (X.bb _ f6) z2)
      d5:=Nat.ne_of_gt (Nat.lt_of_lt_of_le (X.bb _ f6) z3) }
  rcases hv with ⟨rfl,rfl⟩ | rfl
  · exact call_of rfl rfl rfl rfl run
  · exact call_of rfl rfl rfl rfl run
structure Fz (A:Nat→Prop) (H H':AH):Prop where
  len:H.length≤H'.length
  get:∀ i,A i→H'[i]?=H[i]?
structure Ck (H:AH) (A P:Nat→Prop) (W:Wk) (D C n:Nat):Prop where
  wi:WI H P W
  dk:DeckI H D C n
  tab:∃ b,H[0]?=some (.tab b)
  p0:¬ P 0
  pD:¬ P D
  pC:¬ P C
  a0:¬ A 0
  aD:¬ A D
  aC:¬ A C
  aK:¬ A W.kn
  aL:¬ A W.lv
  ab:∀ i,A i→i < H.length
noncomputable def Ad (A:Nat→Prop) (i:Nat):Nat→Prop:=fun j=>A j∨j=i
section
variable {H H' H1 H2:AH}{A A' P P':Nat→Prop}{W:Wk}{D C n m i:Nat}{o:AObj}{S:List Nat}
theorem Fz.refl:Fz A H H:=⟨Nat.le_refl _,fun _ _=>rfl⟩
theorem Fz.trans (a:Fz A H H1) (b:Fz A H1 H2):Fz A H H2:=⟨Nat.le_trans a.len b.len,fun i h=>(b.get i h).trans (a.get i h)⟩
theorem Fz.mono (f:Fz A' H H') (h:∀ i,A i→A' i):Fz A H H':=⟨f.len,fun i a=>f.get i (h i a)⟩
theorem Fz.at (f:Fz A H H') (h:H[i]?=some o) (a:A i):H'[i]?=some o:=(f.get i a).trans h
theorem Fz.of (kp:Kp S H H') (hb:∀ i,A i→i < H.length) (hs:∀ i∈S,¬ A i):Fz A H H':=⟨kp.len,fun i a=>kp.get i (hb i a) fun m=>hs i m a⟩
theorem DeckI.lt (h:DeckI H D C n):D < H.length∧C < H.length:=by
  obtain ⟨_,_,_,a,b,_⟩:=h
  exact ⟨lt_of a,lt_of b⟩
theorem DeckI.n0 (h:DeckI H D C n) (t:∃ b,H[0]?=some (.tab b)):D≠0∧C≠0:=by
  obtain ⟨_,_,_,a,b,_⟩:=h
  obtain ⟨b',t⟩:=t
  exact ⟨ne_of a t nofun,ne_of b t nofun⟩
theorem all3 {a b c:Nat}{p:Nat→Prop} (ha:p a) (hb:p b) (hc:p c):∀ i∈[a,b,c],p i:=fC ⟨ha,fC ⟨hb,fC ⟨hc,nofun⟩⟩⟩
theorem all2 {a b:Nat}{p:Nat→Prop} (ha:p a) (hb:p b):∀ i∈[a,b],p i:=fC ⟨ha,fC ⟨hb,nofun⟩⟩
theorem Ck.post (c:Ck H A P W D C n) (p:Post H P W H' P'):Ck H' A P' W D C n∧Fz A H H':=by
  obtain ⟨d0,c0⟩:=c.dk.n0 c.tab
  obtain ⟨lD,lC⟩:=c.dk.lt
  have no:∀ {i:Nat},¬ P i→i≠0→i∉[W.kn,W.lv,0]:=fun {i} h n m=>all3 (p:=(i≠·)) (fun z=>h (z▸c.wi.pkn)) (fun z=>h (z▸c.wi.plv)) n i m rfl
  have off:∀ {i:Nat},i < H.length→¬ P i→¬ P' i:=fun hl h q=>(p.u.new _ q).elim h fun z=>lt_no z hl
  have f:Fz A H H':=.of p.u.kp c.ab (all3 c.aK c.aL c.a0)
  exact ⟨⟨p.wi,c.dk.keep p.u.kp (no c.pD d0) (no c.pC c0),p.tab,off (c.tab.elim fun _ t=>lt_of t) c.p0,off lD c.pD,off lC c.pC,c.a0,c.aD,c.aC,c.aK,c.aL,fun i a=>Nat.lt_of_lt_of_le (c.ab i a) f.len⟩,f⟩
theorem Ck.nil (c:Ck H A P W D C n) (kp:Kp [] H H'):Ck H' A P W D C n∧Fz A H H' :=
  have f:Fz A H H':=.of kp c.ab nofun
  ⟨⟨c.wi.keep kp nofun,c.dk.mem kp,c.tab.imp fun _ t=>kp.at0 t,c.p0,c.pD,c.pC,c.a0,c.aD,c.aC,c.aK,c.aL,fun i a=>Nat.lt_of_lt_of_le (c.ab i a) f.len⟩,f⟩
theorem Ck.draw (c:Ck H A P W D C n) (kp:Kp [D,C] H H') (dk:DeckI H' D C m):Ck H' A P W D C m∧Fz A H H' :=
  have f:Fz A H H':=.of kp c.ab (all2 c.aD c.aC)
  ⟨⟨c.wi.keep kp (all2 c.pD c.pC),dk,c.tab.imp fun _ t=>kp.at2 t (c.dk.n0 c.tab).1.symm (c.dk.n0 c.tab).2.symm,c.p0,c.pD,c.pC,c.a0,c.aD,c.aC,c.aK,c.aL,fun i a=>Nat.lt_of_lt_of_le (c.ab i a) f.len⟩,f⟩
theorem Ck.add (c:Ck H A P W D C n) {H0:AH}{A0 P0:Nat→Prop}{n0:Nat} (c0:Ck H0 A0 P0 W D C n0) (h:H0.length≤i) (hi:i < H.length):Ck H (Ad A i) P W D C n :=
  have ne:∀ {j:Nat},j < H0.length→j≠i:=fun hj=>Nat.ne_of_lt (Nat.lt_of_lt_of_le hj h)
  ⟨c.wi,c.dk,c.tab,c.p0,c.pD,c.pC,fun a=>a.elim c.a0 (ne (c0.tab.elim fun _ t=>lt_of t)),fun a=>a.elim c.aD (ne c0.dk.lt.1),fun a=>a.elim c.aC (ne c0.dk.lt.2),fun a=>a.elim c.aK (ne (c0.wi.bound _ c0.wi.pkn)),fun a=>a.elim c.aL (ne (c0.wi.bound _ c0.wi.plv)),fun j a=>a.elim (c.ab j) fun q=>q▸hi⟩
theorem Ck.weak (c:Ck H A P W D C n) (h:∀ i,A' i→A i):Ck H A' P W D C n :=
  ⟨c.wi,c.dk,c.tab,c.p0,c.pD,c.pC,fun a=>c.a0 (h _ a),fun a=>c.aD (h _ a),fun a=>c.aC (h _ a),fun a=>c.aK (h _ a),fun a=>c.aL (h _ a),fun i a=>c.ab i (h i a)⟩
theorem Ck.more (c:Ck H A P W D C n) (h:n≤m):Ck H A P W D C m:=⟨c.wi,c.dk.mono h,c.tab,c.p0,c.pD,c.pC,c.a0,c.aD,c.aC,c.aK,c.aL,c.ab⟩
variable {d a b gi:Nat}{l:List Nat}{Q:V→AH→Prop}
theorem k_merge (c:Ck H A P W D C n) (ha:a < W.g0.length) (hb:b < W.g0.length) (hq:∀ H' P' i,Ck H' A P' W D C n→Fz A H H'→H'[i]?=some (.list ((mergeBases W.g a b).map idv))→H.length≤i→Q (.ref i) H'):callN (d+8) .merge_bases [.inst .Walk W.w,idv a,idv b] H Q :=
  c.tab.elim fun _ t=>merge_bases_ok c.wi c.p0 t ha hb fun H' P' i p e l _=>hq H' P' i (c.post p).1 (c.post p).2 e l
theorem k_ahead (c:Ck H A P W D C n) (ha:a < W.g0.length) (hb:b < W.g0.length) (hq:∀ H' P',Ck H' A P' W D C n→Fz A H H'→Q (.tup [.int ((aheadBehind W.g a b).1:Int),.int ((aheadBehind W.g a b).2:Int)]) H'):callN (d+7) .ahead_behind [.inst .Walk W.w,idv a,idv b] H Q :=
  c.tab.elim fun _ t=>ahead_behind_ok c.wi c.p0 t ha hb fun H' P' p=>hq H' P' (c.post p).1 (c.post p).2
theorem Ck.post2 (c:Ck H A P W D C n) (x:Af H P W H' P'):Ck H' A P' W D C n∧Fz A H H' :=
  c.post ⟨⟨x.kp.two (.head _) (.tail _ (.head _)),x.up,x.new⟩,x.wi,c.tab.imp fun _ t=>x.at c.wi t c.p0⟩
theorem k_anc (c:Ck H A P W D C n) (ha:a < W.g0.length) (hb:b < W.g0.length) (hq:∀ H' P',Ck H' A P' W D C n→Fz A H H'→Q (.bool (isAnc W.g a b)) H'):callN (d+6) .is_ancestor [.inst .Walk W.w,idv a,idv b] H Q :=
  is_ancestor_ok c.wi ha hb fun H' P' x=>hq H' P' (c.post2 x).1 (c.post2 x).2
theorem k_many (c:Ck H A P W D C n) (hg:H[gi]?=some (.list (l.map idv))) (hl:l.length≤40) (hlt:∀ x∈l,x < W.g0.length) (hq:∀ H' P' i,Ck H' A P' W D C n→Fz A H H'→H'[i]?=some (.list ((mergeMany W.g l).map idv))→H.length≤i→Q (.ref i) H'):callN (d+8) .merge_bases_many [.inst .Walk W.w,.ref gi] H Q :=
  c.tab.elim fun _ t=>merge_many_ok c.wi c.p0 t hg hl hlt fun H' P' i p e l _=>hq H' P' i (c.post p).1 (c.post p).2 e l
theorem k_indep (c:Ck H A P W D C n) (hg:H[gi]?=some (.list (l.map idv))) (hl:l.length≤20) (hlt:∀ x∈l,x < W.g0.length) (hq:∀ H' P' i,Ck H' A P' W D C n→Fz A H H'→H'[i]?=some (.list ((independent W.g l).map idv))→H.length≤i→Q (.ref i) H'):callN (d+7) .independent [.inst .Walk W.w,.ref gi] H Q :=
  c.tab.elim fun _ t=>independent_ok c.wi c.p0 t hg hl hlt fun H' P' i p e l _=>hq H' P' i (c.post p).1 (c.post p).2 e l
theorem k_parents (c:Ck H A P W D C n) (ha:a < W.g0.length) (hq:∀ H' P' i,Ck H' A P' W D C n→Fz A H H'→H'[i]?=some (.list ((par W.g a).map idv))→H.length≤i→Q (.ref i) H'):callN (d+5) .parents [.inst .Walk W.w,idv a] H Q :=
  parents_ok c.wi ha fun H' P' i x e _ l=>hq H' P' i (c.post2 x).1 (c.post2 x).2 e l
theorem k_date (c:Ck H A P W D C n) (ha:a < W.g0.length) (hq:∀ H' P',Ck H' A P' W D C n→Fz A H H'→Q (.int (W.t a)) H'):callN (d+5) .date [.inst .Walk W.w,idv a] H Q :=
  date_ok c.wi ha fun H' P' x=>hq H' P' (c.post2 x).1 (c.post2 x).2
theorem k_draw (c:Ck H A P W D C n) (hn:n < 10000) (hb:0 < m) (hb':m < 1000) (hq:∀ H' (r:Nat),Ck H' A P W D C (n+1)→Fz A H H'→r < m→Q (nv r) H'):callN (d+1) .draw [.ref D,nv m] H Q :=
  draw_ok c.dk hn hb hb' fun H' r kp dk hr=>hq H' r (c.draw kp dk).1 (c.draw kp dk).2 hr
theorem anyEq_nv (a:Nat):∀ l:List Nat,anyEq (nv a) (l.map nv)=some (l.contains a)
  | []=>rfl
  | x :: r=>by
    have e:anyEq (nv a) ((x :: r).map nv)=orO (some ((x:Int) == (a:Int))) (anyEq (nv a) (r.map nv)):=rfl
    rw [e,anyEq_nv a r,List.contains_cons,show (a == x)=(x == a) from Bool.beq_comm]
    exact congrArg (fun z=>some (z || r.contains a)) (by rw [beq_cast];rfl)
variable {B:Bool→AH→Prop}{R k j:Nat}{refs:List Nat}{g:Gr}
theorem isin_nv (h:H[i]?=some (.list (l.map nv))) (q:B (l.contains a) H):cmpB .isin (nv a) (.ref i) H B:=in_list h (anyEq_nv a l) q
theorem nin_nv (h:H[i]?=some (.list (l.map nv))) (q:B (!l.contains a) H):cmpB .nin (nv a) (.ref i) H B:=in_list (B:=fun r H=>B (!r) H) h (anyEq_nv a l) q
theorem eqPs_idv:∀ l:List Nat,eqPs (l.map idv) (l.map idv)=some true
  | []=>rfl
  | x :: r=>by
    have e:eqPs ((x :: r).map idv) ((x :: r).map idv)=andO (some (idb x == idb x)) (eqPs (r.map idv) (r.map idv)):=rfl
    rw [e,eqPs_idv r,BEq.refl];rfl
theorem eqSeq_idv (l:List Nat):eqSeq (l.map idv) (l.map idv)=some true:=(if_pos rfl).trans (eqPs_idv l)
theorem ne_same (h:H[i]?=some (.list (l.map idv))) (h':H[j]?=some (.list (l.map idv))) (q:B false H):cmpB .ne (.ref i) (.ref j) H B:=ne_list h h' (eqSeq_idv l) q
theorem eq_same (h:H[i]?=some (.list (l.map idv))) (h':H[j]?=some (.list (l.map idv))) (q:B true H):cmpB .eq (.ref i) (.ref j) H B:=eq_list h h' (eqSeq_idv l) q
theorem sub_rows (X:RowsAt H R refs g) (hk:k < g.length) (hn:g.length≤1000) (q:∀ r,r∈refs→H[r]?=some (.list ((par g k).map nv))→Q (.ref r) H):subV (.ref R) (nv k) H Q:=by
  have hk2:k < refs.length:=X.len▸hk
  exact sub_list X.l (Nat.le_trans (Nat.le_of_eq ((List.length_map ..).trans X.len)) (Nat.le_trans hn (by decide))) (map_some (List.getElem?_eq_getElem hk2)) rfl (q _ (List.getElem_mem hk2) (X.row k _ (List.getElem?_eq_getElem hk2)))
theorem comp_grow {α:Type}{it:Iter}{own:Nat}{cond:List (Option V)→CM Bool}{elt:List (Option V)→CM V}{Q:List V→AH→Prop} (xs:List α) (enc out:α→V) (o:α→List (Option V)) (p:α→Bool)
    (hit:∀ q H',Kp [] H H'→∀ {A:Prop}{B:V→Prop},optB (xs.map enc)[q]? A B→itK it q H' A B) (ho:∀ x∈xs,∀ B:List (Option V)→Prop,B (o x)→compOwn own (enc x) B) (hc:∀ x∈xs,∀ H',Kp [] H H'→∀ R:Bool→AH→Prop,(∀ H'',Kp [] H H''→R (p x) H'')→cond (o x) H' R)
    (he:∀ x∈xs,p x=true→∀ H',Kp [] H H'→∀ R:V→AH→Prop,R (out x) H'→elt (o x) H' R) (hl:xs.length < 2000) (hq:∀ H',Kp [] H H'→Q ((xs.filter p).map out) H'):compTurns it own cond elt fuelFor 0 [] H Q:=by
  suffices h:∀ n q (acc:List V) H',Kp [] H H'→xs.length < n+q→q≤xs.length→acc=((xs.take q).filter p).map out→compTurns it own cond elt n q acc H' Q from h 2000 0 [] H .refl hl (Nat.zero_le _) rfl
  intro n
  induction n with
  | zero=>exact fun p _ _ _ h h2=>absurd h (Nat.not_lt.mpr (Nat.le_trans (Nat.le_of_eq (Nat.zero_add p)) h2))
  | succ n ih =>
    intro q acc H' kp h h2 e
    show itK it q H' (Q acc H') fun v=>compOwn own v fun o=>cond o H' fun r H=>iteB r (elt o H fun x H=>acc.length < lim∧compTurns it own cond elt n (q+1) (acc++[x]) H Q) (compTurns it own cond elt n (q+1) acc H Q)
    refine hit q H' kp ?_
    by_cases hp:q < xs.length
    · have hx:=List.getElem?_eq_getElem hp
      have hm:=List.getElem_mem hp
      refine optB_of (map_some hx) (ho _ hm _ (hc _ hm H' kp _ fun H2 kp2=>?_))
      have h':xs.length < n+(q+1):=Nat.lt_of_lt_of_eq h ((Nat.add_assoc n 1 q).trans (congrArg (n+·) (Nat.add_comm 1 q)))
      have e2:(xs.take (q+1)).filter p=(xs.take q).filter p++(if p xs[q] then [xs[q]] else []):=by
        rw [take_succ' hx,List.filter_append];congr 1;cases h:p xs[q]<;>simp [h]
      cases hpx:p xs[q] with
      | false=>exact ih (q+1) acc H2 kp2 h' hp (by rw [e,e2,hpx];simp)
      | true =>
        refine he _ hm hpx H2 kp2 _ ⟨?_,ih (q+1) _ H2 kp2 h' hp (by rw [e,e2,hpx];simp)⟩
        rw [e,List.length_map]
        exact Nat.lt_of_le_of_lt (List.length_filter_le ..) (Nat.lt_of_le_of_lt (List.length_take_le' ..) (Nat.lt_trans hl (by decide)))
    · refine optB_no (map_none (List.getElem?_eq_none (Nat.not_lt.mp hp))) ?_
      rw [e,List.take_of_length_le (Nat.not_lt.mp hp)]
      exact hq H' kp
end
theorem nat_ne (y x:Nat):(!((y:Int) == (x:Int)))=(y != x):=congrArg (! ·) (by rw [beq_cast];rfl)
theorem isE (l:List Nat):(l.map nv).isEmpty=(l == []):=by cases l<;>rfl
section
variable {H H' H0:AH}{Q:V→AH→Prop}{B:Bool→AH→Prop}{re:List (List Nat)}{common:List Nat}{rrefs:List Nat}{rf ic d:Nat}
theorem alone_ok {O:Orc}{l:List Nat}{x i:Nat}{loc:Loc} (X:RowsAt H rf rrefs re) (hc:H[i]?=some (.list (l.map nv))) (hl:l.length≤60) (hlt:∀ y∈l,y < re.length) (hn:re.length≤1000) {R:V→AH→Prop}
    {e1 e2:E} (h1:∀ y R,R (nv x) H→evE1 O e1 (some (nv y) :: some (nv x) :: loc) H R) (h2:∀ y R,R (.ref rf) H→evE1 O e2 (some (nv y) :: some (nv x) :: loc) H R)
    (r:∀ H' i',Kp [] H H'→H'[i']?=some (.list ((l.filter fun y=>y != x && (par re y).contains x).map nv))→R (.ref i') H') :
    compTurns (.live i) 1 (fun o=>evT O (.and (.cmp .ne (.l 0) e1) (.cmp .isin e1 (.sub e2 (.l 0)))) (o++some (nv x) :: loc)) (fun o=>evE O (.l 0) (o++some (nv x) :: loc)) fuelFor 0 [] H fun vs H=>newList vs H R:=by
  refine comp_map l nv nv (fun y=>[some (nv y)]) (fun y=>y != x && (par re y).contains x) (it_live hc) (fun x _ B q=>.inl ⟨rfl,q⟩) (fun y hy S s=>?_) (fun y hy _ S s=>?_) (Nat.lt_of_le_of_lt hl (by decide)) ?_
  · left
    refine h1 y _ ?_
    left
    rw [nat_ne]
    cases hyx:(y != x) with
    | false =>
      rw [hyx] at s
      exact iteB_f rfl s
    | true =>
      rw [hyx] at s
      refine iteB_t rfl ?_
      left
      refine h1 y _ ?_
      left
      refine h2 y _ ?_
      left
      exact sub_rows X (hlt y hy) hn fun r1 _ r2=>isin_nv r2 s
  · left
    exact s
  exact new_k (ints_lim (Nat.le_trans (List.length_filter_le ..) (Nat.le_trans hl (by decide)))) fun H1 k1 e1 _=>r H1 _ k1 e1
theorem law_best_ok (X:RowsAt H rf rrefs re) (hc:H[ic]?=some (.list (common.map nv))) (hl:common.length≤60) (hlt:∀ x∈common,x < re.length) (hn:re.length≤1000)
    (hq:∀ H' i,Kp [] H H'→H'[i]?=some (.list ((bestP re common).map nv))→H.length≤i→Q (.ref i) H'):callN (d+1) .best [.ref rf,.ref ic] H Q:=by
  refine call_of rfl rfl rfl rfl ?_
  left
  refine comp_grow common nv nv (fun x=>[some (nv x)]) (fun x=>(common.filter fun y=>y != x && (re.getD y []).contains x) == []) (fun q H' kp=>it_live (kp.at0 hc) q) (fun x _ B q=>.inl ⟨rfl,q⟩) (fun x hx H' kp R r=>?_) (fun x hx _ H' kp R r=>?_) (Nat.lt_of_le_of_lt hl (by decide)) fun H' kp=>?_
  · have hc':=kp.at0 hc
    left
    refine alone_ok (X.mem kp) hc' hl hlt hn (fun y R r=>by show evE _ _ _ _ _;left;exact r) (fun y R r=>by show evE _ _ _ _ _;left;exact r) fun H1 i1 k1 e1=>?_
    left
    refine new_k (lim_of rfl) fun H2 k2 e2 _=>?_
    exact eq_empty (k2.at0 e1) e2 (isE _) (r _ ((kp.then k1).then k2))
  · left
    exact r
  · exact new_k (ints_lim (Nat.le_trans (List.length_filter_le ..) (Nat.le_trans hl (by decide)))) fun H1 k1 e1 _=>hq _ _ (kp.then k1) e1 kp.len
noncomputable def bt (b:Bool):List Nat:=if b then [84,114,117,101] else [70,97,108,115,101]
noncomputable def r2t (x y:Bool):List Nat:=[91]++commaL [bt x,bt y]++[93]
theorem repr_two {i:Nat}{x y:Bool} (h:H[i]?=some (.list [.bool x,.bool y])) (q:Q (.str (r2t x y)) H):reprV (.ref i) H Q:=lst_of h ⟨rfl,optK_of (a:=[bt x,bt y]) (by cases x<;>cases y<;>rfl) q⟩
theorem ne_str {s:List Nat} (q:B false H):cmpB .ne (.str s) (.str s) H B:=.inr (.inr (optK_of (congrArg some (BEq.refl s)) q))
theorem eq_tup2 {x y:Nat} (q:B true H):cmpB .eq (.tup [nv x,nv y]) (.tup [nv x,nv y]) H B:=by
  refine .inr (.inl ⟨rfl,optK_of (a:=true) ?_ q⟩)
  show some (((x:Int) == (x:Int)) && (((y:Int) == (y:Int)) && true))=_
  rw [BEq.refl,BEq.refl];rfl
structure Env (H:AH) (A:Nat→Prop) (L:Ls) (rf:Nat) (rrefs:List Nat) (re:List (List Nat)):Prop where
  w:H[L.w]?=some (.dict (wkv L))
  ids:H[L.I]?=some (.list ((List.range L.g.length).map idv))
  rr:RowsAt H rf rrefs re
  aw:A L.w
  aI:A L.I
  aR:A rf
  aS:∀ r∈rrefs,A r
  n:L.g.length≤6
  rl:re.length=L.g.length
  el:∀ k,k < L.g.length→(∀ x∈par re k,x < L.g.length)∧(par re k).length≤60
variable {A A' P P' A0:Nat→Prop}{L:Ls}{W:Wk}{D C n m a b i:Nat}
theorem Env.fz (e:Env H A L rf rrefs re) (f:Fz A H H'):Env H' A L rf rrefs re :=
  ⟨f.at e.w e.aw,f.at e.ids e.aI,⟨f.at e.rr.l e.aR,e.rr.len,fun k r h=>f.at (e.rr.row k r h) (e.aS r (List.mem_of_getElem? h))⟩,e.aw,e.aI,e.aR,e.aS,e.n,e.rl,e.el⟩
theorem Env.more (e:Env H A L rf rrefs re) (h:∀ i,A i→A' i):Env H A' L rf rrefs re :=
  ⟨e.w,e.ids,e.rr,h _ e.aw,h _ e.aI,h _ e.aR,fun r m=>h _ (e.aS r m),e.n,e.rl,e.el⟩
structure Cx (H0:AH) (A0:Nat→Prop) (H:AH) (A P:Nat→Prop) (W:Wk) (D C n:Nat) (L:Ls) (rf:Nat) (rrefs:List Nat) (re:List (List Nat)):Prop where
  ck:Ck H A P W D C n
  f:Fz A0 H0 H
  sub:∀ i,A0 i→A i
  e:Env H A L rf rrefs re
theorem Cx.go (c:Cx H0 A0 H A P W D C n L rf rrefs re) (ck':Ck H' A P' W D C m) (f':Fz A H H'):Cx H0 A0 H' A P' W D C m L rf rrefs re:=⟨ck',c.f.trans (f'.mono c.sub),c.sub,c.e.fz f'⟩
theorem Cx.nil (c:Cx H0 A0 H A P W D C n L rf rrefs re) (kp:Kp [] H H'):Cx H0 A0 H' A P W D C n L rf rrefs re:=c.go (c.ck.nil kp).1 (c.ck.nil kp).2
theorem Cx.add (c:Cx H0 A0 H' A P' W D C m L rf rrefs re) {H1:AH}{A1 P1:Nat→Prop}{n1:Nat} (c0:Ck H1 A1 P1 W D C n1) (h:H1.length≤i) (hi:i < H'.length):Cx H0 A0 H' (Ad A i) P' W D C m L rf rrefs re :=
  ⟨c.ck.add c0 h hi,c.f,fun i a=>.inl (c.sub i a),c.e.more fun _ a=>.inl a⟩
theorem Cx.start (c:Ck H A P W D C n) (e:Env H A L rf rrefs re):Cx H A H A P W D C n L rf rrefs re:=⟨c,.refl,fun _ a=>a,e⟩
end
theorem pairChk_split {g:Gr}{re:List (List Nat)}{a b:Nat} (h:pairChk g re a b=true) :
    mergeBases g a b=isortN (bestP re ((par re a).filter fun x=>(par re b).contains x))∧mergeBases g b a=isortN (bestP re ((par re a).filter fun x=>(par re b).contains x))∧isAnc g a b=(par re b).contains a∧isAnc g b a=(par re a).contains b ∧
      aheadBehind g a b=(((par re a).filter fun x=>!(par re b).contains x).length,((par re b).filter fun x=>!(par re a).contains x).length):=by
  unfold pairChk at h
  simp only [Bool.and_eq_true,beq_iff_eq] at h
  exact ⟨h.1.1.1.1,h.1.1.1.2,h.1.1.2,h.1.2,h.2⟩
section
variable {H H0:AH}{Q:V→AH→Prop}{re:List (List Nat)}{rrefs:List Nat}{rf d:Nat}{A P A0:Nat→Prop}{L:Ls}{W:Wk}{D C n a b:Nat}
theorem due_ok {O:Orc}{l:List Nat}{i:Nat}{loc:Loc}{x:E} (c:Cx H0 A0 H A P W D C n L rf rrefs re) (h:H[i]?=some (.list (l.map nv))) (hl:l.length≤60) (hlt:∀ x∈l,x < L.g.length) (hx:∀ k R H',Kp [] H H'→R (.ref L.I) H'→evE1 O x (some (nv k) :: loc) H' R)
    {R:V→AH→Prop} (r:∀ H' j,Cx H0 A0 H' (Ad A j) P W D C n L rf rrefs re→Fz A H H'→H'[j]?=some (.list ((isortN l).map idv))→R (.ref j) H') :
    compTurns (.live i) 1 (fun _ H Q=>Q true H) (fun o=>evE O (.sub x (.l 0)) (o++loc)) fuelFor 0 [] H fun vs H=>newList vs H fun x H=>sortedV x H R:=by
  have hn6:L.g.length≤1000:=Nat.le_trans c.e.n (by decide)
  refine comp_map l nv idv (fun x=>[some (nv x)]) (fun _=>true) (it_live h) (fun x _ B q=>.inl ⟨rfl,q⟩) (fun x hx R r=>r) (fun y hy _ S s=>?_) (Nat.lt_of_le_of_lt hl (by decide)) ?_
  · left
    refine hx y _ H .refl ?_
    left
    exact sub_ids c.e.ids (hlt y hy) hn6 s
  rw [List.filter_eq_self.mpr fun _ _=>rfl]
  refine new_k (ids_lim (Nat.le_trans hl (by decide))) fun H1 k1 e1 _=>?_
  refine sorted_ids e1 (Nat.lt_of_le_of_lt hl (by decide)) (fun x m=>Nat.lt_of_lt_of_le (hlt x m) (Nat.le_trans c.e.n (by decide))) fun H2 k2 e2 _=>?_
  have k02:=k1.then k2
  exact r H2 _ ((c.nil k02).add c.ck k1.len (lt_of e2)) (c.ck.nil k02).2 e2
set_option maxHeartbeats 4000000 in
theorem pair_right_ok (c:Ck H A P W D C n) (e:Env H A L rf rrefs re) (hN:W.g0.length=L.g.length) (ha:a < L.g.length) (hb:b < L.g.length) (hchk:pairChk W.g re a b=true)
    (hq:∀ H' P',Ck H' A P' W D C n→Fz A H H'→Q (.bool true) H'):callN (d+9) .pair_right [.ref L.w,.inst .Walk W.w,.ref rf,nv a,nv b] H Q:=by
  obtain ⟨m1,m2,m3,m4,m5⟩:=pairChk_split hchk
  have hn6:L.g.length≤1000:=Nat.le_trans e.n (by decide)
  have hr6:re.length≤1000:=e.rl.symm▸hn6
  have ha2:a < re.length:=e.rl.symm▸ha
  have hb2:b < re.length:=e.rl.symm▸hb
  have ha3:a < W.g0.length:=hN.symm▸ha
  have hb3:b < W.g0.length:=hN.symm▸hb
  obtain ⟨ela,lla⟩:=e.el a ha
  obtain ⟨elb,llb⟩:=e.el b hb
  have x0:=Cx.start c e
  have w0:=e.w
  refine call_of (loc:=[some (.ref L.w),some (.inst .Walk W.w),some (.ref rf),some (nv a),some (nv b),none,none,none,none,none,none]) rfl rfl rfl rfl ?_
  refine op_loc fun _ _=>?_
  left
  refine sub_rows e.rr ha2 hr6 fun ra _ ra1=>?_
  left
  refine comp_map (par re a) nv nv (fun x=>[some (nv x)]) (fun x=>(par re b).contains x) (it_live ra1) (fun x _ B q=>.inl ⟨rfl,q⟩) (fun x hx R r=>?_) (fun x hx _ R r=>?_) (Nat.lt_of_le_of_lt lla (by decide)) ?_
  · subst_vars
    left
    exact sub_rows e.rr hb2 hr6 fun rb _ rb1=>isin_nv rb1 r
  · left
    exact r
  have hcl:((par re a).filter fun x=>(par re b).contains x).length≤60:=Nat.le_trans (List.length_filter_le _ _) lla
  have hcm:∀ x∈(par re a).filter fun x=>(par re b).contains x,x < L.g.length:=fun x m=>ela x (List.mem_filter.mp m).1
  revert hcl hcm m1 m2
  generalize ((par re a).filter fun x=>(par re b).contains x)=common
  intro m1 m2 hcl hcm
  refine new_k (ints_lim (Nat.le_trans hcl (by decide))) fun H1 k1 e1 _=>?_
  have x1:=x0.nil k1
  left
  refine law_best_ok (d:=d+7) x1.e.rr e1 hcl (fun x m=>e.rl.symm▸hcm x m) hr6 fun H2 i2 k2 e2 _=>?_
  have x2:=x1.nil k2
  left
  refine due_ok x2 e2 (Nat.le_trans (List.length_filter_le _ _) hcl) (fun x m=>hcm x (List.mem_filter.mp m).1) (fun k R H' _ r=>by subst_vars;show evE _ _ _ _ _;left;exact r) fun H3 i3 x3 _ e3=>?_
  have dl:(isortN (bestP re common)).length≤60:=Nat.le_trans (Nat.le_of_eq (isortN_len _)) (Nat.le_trans (List.length_filter_le _ _) hcl)
  revert m1 m2 dl e3
  generalize isortN (bestP re common)=due
  intro m1 m2 e3 dl
  have dl:=ids_lim (Nat.le_trans dl (show 60≤1000 by decide))
  have fl3:=x3.ck.wi.fl
  left
  refine sub_ids x3.e.ids ha hn6 ?_
  left
  refine sub_ids x3.e.ids hb hn6 ?_
  left
  refine k_merge (d:=d) x3.ck ha3 hb3 fun H4 P4 i4 c4 f4 b4 _=>?_
  refine list_k (m1▸b4) dl fun H5 k5 q5 _=>?_
  have x5:=(x3.go c4 f4).nil k5
  have due5:=k5.at0 (f4.at e3 (.inr rfl))
  have fl5:=x5.ck.wi.fl
  left
  refine ne_same q5 due5 (iteB_f rfl ?_)
  left
  refine sub_ids x5.e.ids hb hn6 ?_
  left
  refine sub_ids x5.e.ids ha hn6 ?_
  left
  refine k_merge (d:=d) x5.ck hb3 ha3 fun H6 P6 i6 c6 f6 b6 _=>?_
  refine list_k (m2▸b6) dl fun H7 k7 q7 _=>?_
  have x7:=(x5.go c6 f6).nil k7
  have fl7:=x7.ck.wi.fl
  left
  refine ne_same q7 (k7.at0 (f6.at due5 (.inr rfl))) (iteB_f rfl ?_)
  left
  refine sub_ids x7.e.ids ha hn6 ?_
  left
  refine sub_ids x7.e.ids hb hn6 ?_
  left
  refine k_anc (d:=d+2) x7.ck ha3 hb3 fun H8 P8 c8 f8=>?_
  rw [m3]
  have x8:=x7.go c8 f8
  have fl8:=x8.ck.wi.fl
  left
  refine sub_ids x8.e.ids hb hn6 ?_
  left
  refine sub_ids x8.e.ids ha hn6 ?_
  left
  refine k_anc (d:=d+2) x8.ck hb3 ha3 fun H9 P9 c9 f9=>?_
  rw [m4]
  have x9:=x8.go c9 f9
  left
  refine new_k (lim_of rfl) fun Ha ka ea _=>?_
  have xa:=x9.nil ka
  left
  refine repr_two ea ?_
  left
  refine sub_rows xa.e.rr hb2 hr6 fun rb _ rb1=>isin_nv rb1 ?_
  left
  refine sub_rows xa.e.rr ha2 hr6 fun ra _ ra1=>isin_nv ra1 ?_
  left
  refine new_k (lim_of rfl) fun Hb kb eb _=>?_
  have xb:=xa.nil kb
  refine repr_two eb (ne_str (iteB_f rfl ?_))
  left
  refine sub_rows xb.e.rr ha2 hr6 fun ra _ ra1=>?_
  left
  refine comp_map (par re a) nv nv (fun x=>[some (nv x)]) (fun x=>!(par re b).contains x) (it_live ra1) (fun x _ B q=>.inl ⟨rfl,q⟩) (fun x hx R r=>?_) (fun x hx _ R r=>?_) (Nat.lt_of_le_of_lt lla (by decide)) ?_
  · subst_vars
    left
    exact sub_rows xb.e.rr hb2 hr6 fun rb _ rb1=>nin_nv rb1 r
  · left
    exact r
  have hnl:=ints_lim (Nat.le_trans (Nat.le_trans (List.length_filter_le (fun x=>!(par re b).contains x) _) lla) (by decide))
  refine new_k hnl fun Hc kc ec _=>?_
  have xc:=xb.nil kc
  refine len_list ec hnl ?_
  left
  refine sub_rows xc.e.rr hb2 hr6 fun rb _ rb1=>?_
  left
  refine comp_map (par re b) nv nv (fun x=>[some (nv x)]) (fun x=>!(par re a).contains x) (it_live rb1) (fun x _ B q=>.inl ⟨rfl,q⟩) (fun x hx R r=>?_) (fun x hx _ R r=>?_) (Nat.lt_of_le_of_lt llb (by decide)) ?_
  · subst_vars
    left
    exact sub_rows xc.e.rr ha2 hr6 fun ra _ ra1=>nin_nv ra1 r
  · left
    exact r
  have hfl:=ints_lim (Nat.le_trans (Nat.le_trans (List.length_filter_le (fun x=>!(par re a).contains x) _) llb) (by decide))
  refine new_k hfl fun Hd kd ed _=>?_
  have xd:=xc.nil kd
  have fld:=xd.ck.wi.fl
  refine len_list ed hfl ?_
  left
  refine sub_ids xd.e.ids ha hn6 ?_
  left
  refine sub_ids xd.e.ids hb hn6 ?_
  left
  refine k_ahead (d:=d+1) xd.ck ha3 hb3 fun He Pe ce fe=>?_
  have xe:=xd.go ce fe
  rw [m5]
  left
  rw [List.length_map,List.length_map]
  refine eq_tup2 ?_
  exact hq He Pe (xe.ck.weak xe.sub) xe.f
end
noncomputable def en:Nat→List Nat→List (Nat × Nat)
  | _,[]=>[]
  | n,k :: r=>(n,k) :: en (n+1) r
noncomputable def encE (p:Nat × Nat):V:=.tup [.int (p.1:Int),nv p.2]
theorem en_at {l:List Nat}:∀ {n q:Nat},(en n l)[q]?=l[q]?.map fun x=>(n+q,x):=by
  induction l with
  | nil=>intro n q;rfl
  | cons a r ih =>
    intro n q
    cases q with
    | zero=>rfl
    | succ q =>
      show (en (n+1) r)[q]?=_
      rw [ih,Nat.add_assoc,Nat.add_comm 1 q];rfl
theorem en_len:∀ (l:List Nat) (n:Nat),(en n l).length=l.length
  | [],_=>rfl
  | k :: r,n=>by show (en (n+1) r).length+1=_;rw [en_len r];rfl
theorem en_mem:∀ (l:List Nat) (n:Nat) (e:Nat × Nat),e∈en n l→e.2∈l∧e.1 < n+l.length
  | k :: r,n,e,h=>by
    rcases mZ h with h | h
    · rw [h];exact ⟨List.mem_cons_self ..,by simp⟩
    · have:=en_mem r (n+1) e h
      exact ⟨List.mem_cons_of_mem _ this.1,by simp;omega⟩
theorem en_once:∀ (suf pre seen:List Nat),(∀ x,seen.contains x=pre.contains x)→((en pre.length suf).filter fun e=>!((pre++suf).take e.1).contains e.2).map (·.2)=onceN seen suf
  | [],_,_,_=>rfl
  | k :: r,pre,seen,h=>by
    have e1:en pre.length (k :: r)=(pre.length,k) :: en (pre++[k]).length r:=by
      show (pre.length,k) :: en (pre.length+1) r=_
      simp
    have e2:pre++k :: r=(pre++[k])++r:=by simp
    have e3:(pre++k :: r).take pre.length=pre:=by simp
    rw [e1,List.filter_cons]
    have on:onceN seen (k :: r)=if seen.contains k then onceN seen r else k :: onceN (k :: seen) r:=rfl
    rw [on]
    simp only [e3,← h k]
    cases hk:seen.contains k with
    | true =>
      have ih:=en_once r (pre++[k]) seen fun x=>by
        rw [h x]
        have hp:pre.contains k=true:=by rw [← h k];exact hk
        rw [Bool.eq_iff_iff]
        simp only [List.contains_iff_mem,List.mem_append,List.mem_singleton] at hp ⊢
        constructor
        · exact .inl
        · rintro (q | q)
          · exact q
          · rw [q];exact hp
      simp only [Bool.not_true,Bool.false_eq_true,if_false,if_true]
      rw [e2];exact ih
    | false =>
      have ih:=en_once r (pre++[k]) (k :: seen) fun x=>by
        rw [List.contains_cons,h x]
        rw [Bool.eq_iff_iff]
        simp [or_comm]
      simp only [Bool.not_false,Bool.false_eq_true,if_false,if_true,List.map_cons]
      rw [e2,ih]
theorem lotChk_split {g:Gr}{re:List (List Nat)}{lot:List Nat} (h:lotChk g re lot=true) :
    mergeMany g lot=isortN (bestP re ((List.range g.length).filter fun x=>!lot.isEmpty && (lot.filter fun k=>!(par re k).contains x) == [])) ∧
      independent g lot=(onceN [] lot).filter fun k=>((onceN [] lot).filter fun j=>j != k && (par re j).contains k) == []:=by
  unfold lotChk at h
  simp only [Bool.and_eq_true,beq_iff_eq] at h
  refine ⟨?_,?_⟩
  · have:=h.1
    simpa [par] using this
  · have:=h.2
    simpa [par] using this
section
variable {H H0:AH}{Q:V→AH→Prop}{re:List (List Nat)}{rrefs:List Nat}{rf d i p:Nat}{A P A0:Nat→Prop}{L:Ls}{W:Wk}{D C n a b:Nat}{l:List Nat}
theorem it_enumE (h:H[i]?=some (.list (l.map nv))) (q:Nat) {X:Prop}{Y:V→Prop} (z:optB ((en 0 l).map encE)[q]? X Y):itK (.enum i) q H X Y:=by
  refine lst_of h ?_
  rw [List.getElem?_map,en_at] at z
  rw [List.getElem?_map]
  cases hq:l[q]? with
  | none=>rw [hq] at z;exact z
  | some x=>rw [hq,Nat.zero_add] at z;exact z
theorem upto_list (h:H[i]?=some (.list (l.map nv))) (hl:l.length≤999) (hp:p≤999) (q:∀ H',Kp [] H H'→H'[H.length]?=some (.list ((l.take p).map nv))→H'.length=H.length+1→Q (.ref H.length) H'):uptoV (.ref i) (.int (p:Int)) H Q:=by
  refine .inr ⟨⟨Int.natCast_nonneg _,Int.ofNat_lt.mpr (Nat.lt_succ_of_le hp)⟩,.inr (lst_of h ⟨ints_lim (Nat.le_succ_of_le hl),?_⟩)⟩
  rw [Int.toNat_natCast,← List.map_take]
  exact new_k (ints_lim (Nat.le_trans (List.length_take_le' ..) (Nat.le_succ_of_le hl))) q
theorem reach_lt {x:Nat} (e:Env H A L rf rrefs re) (h:x < L.g.length):x < re.length:=e.rl.symm▸h
set_option maxHeartbeats 4000000 in
theorem lot_right_ok (c:Ck H A P W D C n) (e:Env H A L rf rrefs re) (hN:W.g0.length=L.g.length) (hpos:0 < L.g.length) (hnn:n < 9000)
    (hchk:∀ lot:List Nat,lot.length≤3→(∀ x∈lot,x < L.g.length)→lotChk W.g re lot=true)
    (hq:∀ H' P',Ck H' A P' W D C (n+4)→Fz A H H'→Q (.bool true) H'):callN (d+9) .lot_right [.ref D,.ref L.w,.inst .Walk W.w,.ref rf] H Q:=by
  have hn6:L.g.length≤1000:=Nat.le_trans e.n (by decide)
  have hr6:re.length≤1000:=e.rl.symm▸hn6
  have hrl:(List.range L.g.length).length≤1000:=List.length_range.symm▸hn6
  have hWg:W.g.length=L.g.length:=c.wi.len.trans hN
  have w0:=e.w
  refine call_of (loc:=[some (.ref D),some (.ref L.w),some (.inst .Walk W.w),some (.ref rf),none,none,none,none,none,none]) rfl rfl rfl rfl ?_
  left
  refine k_draw (d:=d+7) (m:=4) c (Nat.lt_trans hnn (by decide)) (by decide) (by decide) fun H1 r0 ck1 f1 hr0=>?_
  left
  refine ⟨rng_of (Nat.le_trans (Nat.le_of_lt hr0) (by decide)),?_⟩
  have hrm:((List.range r0).map nv).length=r0:=by rw [List.length_map,List.length_range]
  have x0:=(Cx.start c e).go ck1 f1
  refine comp_ok ((List.range r0).map nv) (fun p acc H'=>∃ lot:List Nat,acc=lot.map nv∧lot.length=p∧(∀ x∈lot,x < L.g.length)∧Cx H A H' A P W D C (n+1+p) L rf rrefs re) (fun p acc H' i A B q=>q) (fun p acc H' ⟨ts,a,b,_⟩=>by rw [a,List.length_map,b]) (Nat.lt_of_le_of_lt (Nat.le_of_eq hrm) (Nat.lt_of_lt_of_le hr0 (by decide))) (fun p v acc H' K hv ⟨lot,a,b,hlt,x⟩ hK=>?_) (fun acc H2 ⟨lot,a,hl,hlt,x2⟩=>?_) ⟨[],rfl,rfl,nofun,x0⟩
  · have hp:p < r0:=hrm▸(gS hv).1
    left
    refine len_list x.e.ids (ids_lim hrl) ?_
    rw [List.length_map,List.length_range]
    left
    refine k_draw (d:=d+7) x.ck (by omega) hpos (Nat.lt_of_le_of_lt e.n (by decide)) fun H2 r ck2 f2 hr=>?_
    exact hK _ H2 ⟨lot++[r],by rw [a,List.map_append];rfl,by rw [List.length_append,b];rfl,mem_app hlt hr,x.go ck2 f2⟩
  subst a
  rw [hrm] at hl x2
  have hl3:lot.length≤3:=hl▸Nat.le_of_lt_succ hr0
  have hll:lot.length≤1000:=Nat.le_trans hl3 (by decide)
  have x2:Cx H A H2 A P W D C (n+4) L rf rrefs re:=⟨x2.ck.more (by omega),x2.f,x2.sub,x2.e⟩
  obtain ⟨m1,m2⟩:=lotChk_split (hchk lot hl3 hlt)
  rw [hWg] at m1
  refine new_k (ints_lim hll) fun H3 k3 e3 _=>?_
  have x3:=(x2.nil k3).add c x2.f.len (lt_of e3)
  left
  refine len_list x3.e.ids (ids_lim hrl) ?_
  rw [List.length_map,List.length_range]
  left
  refine ⟨rng_of hn6,?_⟩
  refine comp_grow (List.range L.g.length) nv nv (fun x=>[some (nv x)]) (fun x=>!lot.isEmpty && (lot.filter fun k=>!(par re k).contains x) == []) (fun q H' kp _ _ z=>z) (fun x _ B q=>.inl ⟨rfl,q⟩) (fun x hx H' kp R r=>?_) (fun x hx _ H' kp R r=>?_) (Nat.lt_of_le_of_lt hrl (by decide)) fun H4 k4=>?_
  · have l':=kp.at0 e3
    left
    refine new_k (lim_of rfl) fun H4 k4 e4 _=>?_
    have l4:=k4.at0 l'
    refine ne_empty l4 e4 List.isEmpty_map ?_
    cases hle:lot.isEmpty with
    | true =>
      rw [hle] at r
      exact iteB_f rfl (r _ (kp.then k4))
    | false =>
      rw [hle] at r
      refine iteB_t rfl ?_
      left
      refine comp_map lot nv nv (fun k=>[some (nv k)]) (fun k=>!(par re k).contains x) (it_live l4) (fun x _ B q=>.inl ⟨rfl,q⟩) (fun y hy S s=>?_) (fun y hy _ S s=>?_) (Nat.lt_of_le_of_lt hll (by decide)) ?_
      · left
        exact sub_rows (x3.e.rr.mem (kp.then k4)) (reach_lt e (hlt y hy)) hr6 fun r1 _ r2=>nin_nv r2 s
      · left
        exact s
      refine new_k (ints_lim (Nat.le_trans (List.length_filter_le ..) hll)) fun H5 k5 e5 _=>?_
      left
      refine new_k (lim_of rfl) fun H6 k6 e6 _=>?_
      exact eq_empty (k6.at0 e5) e6 (isE _) (r _ (((kp.then k4).then k5).then k6))
  · left
    exact r
  have hcm:∀ x∈(List.range L.g.length).filter fun x=>!lot.isEmpty && (lot.filter fun k=>!(par re k).contains x) == [],x < L.g.length:=fun x m=>List.mem_range.mp (List.mem_filter.mp m).1
  have hcl:((List.range L.g.length).filter fun x=>!lot.isEmpty && (lot.filter fun k=>!(par re k).contains x) == []).length≤60:=Nat.le_trans (List.length_filter_le _ _) (List.length_range.symm▸Nat.le_trans e.n (by decide))
  revert m1 hcm hcl
  generalize ((List.range L.g.length).filter fun x=>!lot.isEmpty && (lot.filter fun k=>!(par re k).contains x) == [])=common
  intro m1 hcm hcl
  refine new_k (ints_lim (Nat.le_trans hcl (by decide))) fun H5 k5 e5 _=>?_
  have x5:=(x3.nil k4).nil k5
  have l5:=k5.at0 (k4.at0 e3)
  left
  refine law_best_ok (d:=d+7) x5.e.rr e5 hcl (fun x m=>reach_lt e (hcm x m)) hr6 fun H6 i6 k6 e6 _=>?_
  have x6:=x5.nil k6
  left
  refine due_ok x6 e6 (Nat.le_trans (List.length_filter_le _ _) hcl) (fun x m=>hcm x (List.mem_filter.mp m).1) (fun k R H' _ r=>by show evE _ _ _ _ _;left;exact r) fun H7 i7 x7 f7 e7=>?_
  have l7:=f7.at (k6.at0 l5) (.inr rfl)
  have al7:∀ {j},Ad (Ad A H2.length) j H2.length:=.inl (.inr rfl)
  have dl:(isortN (bestP re common)).length≤60:=Nat.le_trans (Nat.le_of_eq (isortN_len _)) (Nat.le_trans (List.length_filter_le _ _) hcl)
  revert m1 dl e7
  generalize isortN (bestP re common)=due
  intro m1 e7 dl
  have dl:=ids_lim (Nat.le_trans dl (show 60≤1000 by decide))
  have fl7:=x7.ck.wi.fl
  left
  refine comp_map lot nv idv (fun x=>[some (nv x)]) (fun _=>true) (it_live l7) (fun x _ B q=>.inl ⟨rfl,q⟩) (fun x hx R r=>r) (fun x hx _ R r=>?_) (Nat.lt_of_le_of_lt hll (by decide)) ?_
  · left
    exact sub_ids x7.e.ids (hlt x hx) hn6 r
  rw [List.filter_eq_self.mpr fun _ _=>rfl]
  refine new_k (ids_lim hll) fun H8 k8 e8 _=>?_
  have x8:=x7.nil k8
  left
  refine k_many (d:=d) x8.ck e8 (Nat.le_trans hl3 (by decide)) (fun x m=>hN.symm▸hlt x m) fun H9 P9 i9 c9 f9 b9 _=>?_
  refine list_k (m1▸b9) dl fun Ha ka qa _=>?_
  have xa:=(x8.go c9 f9).nil ka
  have la:=ka.at0 (f9.at (k8.at0 l7) al7)
  left
  refine ne_same qa (ka.at0 (f9.at (k8.at0 e7) (.inr rfl))) (iteB_f rfl ?_)
  left
  refine comp_grow (en 0 lot) encE (fun p=>nv p.2) (fun p=>[some (.int (p.1:Int)),some (nv p.2)]) (fun p=>!(lot.take p.1).contains p.2) (fun q H' kp=>it_enumE (kp.at0 la) q) (fun x _ B q=>.inr ⟨rfl,_,_,rfl,q⟩) (fun x hx H' kp R r=>?_) (fun x hx _ H' kp R r=>?_) (by rw [en_len];exact Nat.lt_of_le_of_lt hll (by decide)) fun Hb kb=>?_
  · left
    refine upto_list (kp.at0 la) (Nat.le_trans hl3 (by decide)) (Nat.le_trans (Nat.le_of_lt (en_mem lot 0 x hx).2) (by rw [Nat.zero_add];exact Nat.le_trans hl3 (by decide))) fun H1 k1 e1 _=>?_
    exact nin_nv e1 (r _ (kp.then k1))
  · left
    exact r
  have emap:((en 0 lot).filter fun p=>!(lot.take p.1).contains p.2).map (fun p=>nv p.2)=(onceN [] lot).map nv:=by
    rw [← en_once lot [] [] fun x=>rfl,List.map_map];rfl
  rw [emap]
  have hol:=Nat.le_trans (onceN_len lot []) hl3
  have hom:∀ x∈onceN [] lot,x < L.g.length:=fun x m=>hlt x (onceN_mem lot [] x m)
  revert m2 hol hom
  generalize onceN [] lot=once
  intro m2 hol hom
  refine new_k (ints_lim (Nat.le_trans hol (by decide))) fun Hc kc ec _=>?_
  have xc:=(xa.nil kb).nil kc
  have lc:=kc.at0 (kb.at0 la)
  left
  refine comp_grow once nv idv (fun x=>[some (nv x)]) (fun k=>(once.filter fun j=>j != k && (par re j).contains k) == []) (fun q H' kp=>it_live (kp.at0 ec) q) (fun x _ B q=>.inl ⟨rfl,q⟩) (fun x hx H' kp R r=>?_) (fun x hx _ H' kp R r=>?_) (Nat.lt_of_le_of_lt hol (by decide)) fun Hd kd=>?_
  · have ec':=kp.at0 ec
    left
    refine alone_ok (xc.e.rr.mem kp) ec' (Nat.le_trans hol (by decide)) (fun y m=>reach_lt e (hom y m)) hr6 (fun y R r=>by show evE _ _ _ _ _;left;exact r) (fun y R r=>by show evE _ _ _ _ _;left;exact r) fun H1 i1 k1 e1=>?_
    left
    refine new_k (lim_of rfl) fun H2 k2 e2 _=>?_
    exact eq_empty (k2.at0 e1) e2 (isE _) (r _ ((kp.then k1).then k2))
  · left
    exact sub_ids (kp.at0 xc.e.ids) (hom x hx) hn6 r
  have hal:=ids_lim (Nat.le_trans (List.length_filter_le (fun k=>(once.filter fun j=>j != k && (par re j).contains k) == []) once) (Nat.le_trans hol (show 3≤1000 by decide)))
  revert m2 hal
  generalize (once.filter fun k=>(once.filter fun j=>j != k && (par re j).contains k) == [])=alone
  intro m2 hal
  refine new_k hal fun He ke ee _=>?_
  have xe:=((xc.nil kd).nil ke).add xc.ck kd.len (lt_of ee)
  have le':=ke.at0 (kd.at0 lc)
  have fle:=xe.ck.wi.fl
  left
  refine comp_map lot nv idv (fun x=>[some (nv x)]) (fun _=>true) (it_live le') (fun x _ B q=>.inl ⟨rfl,q⟩) (fun x hx R r=>r) (fun x hx _ R r=>?_) (Nat.lt_of_le_of_lt hll (by decide)) ?_
  · left
    exact sub_ids xe.e.ids (hlt x hx) hn6 r
  rw [List.filter_eq_self.mpr fun _ _=>rfl]
  refine new_k (ids_lim hll) fun Hf kf ef _=>?_
  have xf:=xe.nil kf
  left
  refine k_indep (d:=d+1) xf.ck ef (Nat.le_trans hl3 (by decide)) (fun x m=>hN.symm▸hlt x m) fun Hg Pg ig cg fg bg _=>?_
  refine list_k (m2▸bg) hal fun Hh kh qh _=>?_
  have xh:=(xf.go cg fg).nil kh
  left
  refine eq_same qh (kh.at0 (fg.at (kf.at0 ee) (.inr rfl))) ?_
  exact hq Hh Pg (xh.ck.weak xh.sub) xh.f
end
noncomputable def kI (l:List Nat):List (K × V):=l.map fun (k:Nat)=>(K.i (k:Int),V.bool true)
theorem kI_all (l:List Nat) (b:Int):((kI l).all fun e=>e.1.sameKind (.i b))=true:=by
  unfold kI;rw [List.all_map,List.all_eq_true];intro p _;rfl
theorem kI_put:∀ (l:List Nat) (k:Nat),putK (kI l) (.i (k:Int)) (.bool true)=kI (addN k l)
  | [],k=>rfl
  | a :: r,k=>by
    have ih:=kI_put r k
    show putK ((K.i (a:Int),V.bool true) :: kI r) (.i (k:Int)) (.bool true)=_
    unfold putK
    by_cases h:a=k
    · subst h
      rw [if_pos rfl]
      unfold addN
      simp [kI]
    · have h1:¬ (K.i (a:Int)=K.i (k:Int)):=fun q=>h (by have:=K.i.inj q;omega)
      rw [if_neg h1,ih]
      unfold addN
      rw [List.contains_cons]
      have h2:(k == a)=false:=beq_eq_false_iff_ne.mpr (Ne.symm h)
      rw [h2,Bool.false_or]
      cases r.contains k<;>rfl
theorem kI_val (l:List Nat):(kI l).map (·.1.val)=l.map nv:=by
  unfold kI;rw [List.map_map];rfl
theorem addN_ok {N k:Nat}{l:List Nat} (hk:k < N) (hl:∀ x∈l,x < N) (nd:l.Nodup):(∀ x∈addN k l,x < N)∧(addN k l).Nodup:=by
  unfold addN
  cases h:l.contains k with
  | true=>exact ⟨by simpa using hl,by simpa using nd⟩
  | false =>
    simp only [Bool.false_eq_true,if_false]
    refine ⟨fun x m=>?_,?_⟩
    · rcases mA m with m | m
      · exact hl x m
      · rw [mS m];exact hk
    · rw [List.nodup_append]
      refine ⟨nd,by simp,fun a ha b hb q=>?_⟩
      rw [mS hb] at q
      subst q
      have:l.contains a=true:=by simpa using ha
      rw [h] at this;cases this
theorem addAll_app:∀ (a l b:List Nat),addAll l (a++b)=addAll (addAll l a) b
  | [],_,_=>rfl
  | k :: r,l,b=>addAll_app r (addN k l) b
theorem ins_nv {a:Nat}:∀ {l:List Nat},ins (nv a) (l.map nv)=(insN a l).map nv
  | []=>rfl
  | x :: r=>by
    have e:ltP (nv a) (nv x)=decide (a < x):=by
      show decide ((a:Int) < (x:Int))=_
      exact decide_eq_decide.mpr (by omega)
    have e2:ins (nv a) ((x :: r).map nv)=if ltP (nv a) (nv x) then nv a :: nv x :: r.map nv else nv x :: ins (nv a) (r.map nv):=rfl
    have e3:insN a (x :: r)=if Nat.blt a x then a :: x :: r else x :: insN a r:=rfl
    rw [e2,e3,e,ins_nv]
    by_cases q:a < x
    · have:Nat.blt a x=true:=by rw [Nat.blt_eq];exact q
      rw [this];simp [q]
    · have:Nat.blt a x=false:=by rw [Bool.eq_false_iff];rw [ne_eq,Nat.blt_eq];exact q
      rw [this];simp [q]
theorem isort_nv:∀ {l:List Nat},isort (l.map nv)=(isortN l).map nv
  | []=>rfl
  | x :: r=>by
    show ins (nv x) (isort (r.map nv))=(insN x (isortN r)).map nv
    rw [isort_nv,ins_nv]
theorem allI:∀ l:List Nat,allInt (l.map nv)=true
  | []=>rfl
  | x :: r=>allI r
section
variable {O:Orc}{N:Loc→AH→Prop}{R:V→AH→Prop}{a0 a1 a2 a3 a4 a6:Option V}{H H0:AH}{di fr n:Nat}{xs T:List Nat}{Q:V→AH→Prop}
theorem sorted_dict {i:Nat}{l:List Nat} (h:H[i]?=some (.dict (kI l))) (hl:l.length < 64) (q:∀ H',Kp [] H H'→H'[H.length]?=some (.list ((isortN l).map nv))→H'.length=H.length+1→Q (.ref H.length) H'):sortedV (.ref i) H Q:=by
  refine optK_of h (.inr ⟨⟨?_,Nat.lt_of_le_of_lt (Nat.le_of_eq (List.length_map ..)) hl⟩,?_⟩)
  · rw [kI_val];exact allI l
  · rw [kI_val,isort_nv]
    exact new_k (ints_lim (Nat.le_trans (Nat.le_of_eq (isortN_len l)) (Nat.le_trans (Nat.le_of_lt hl) (by decide)))) q
theorem setI_k {m:List Nat}{x:Nat}{U:AH→Prop} (h:H[di]?=some (.dict (kI m))) (hl:m.length≤1000) (q:∀ H',Kp [di] H H'→H'[di]?=some (.dict (kI (addN x m)))→U H'):setI (.ref di) (nv x) (.bool true) H U :=
  setd_k h rfl (kI_all _ _) (Nat.lt_of_le_of_lt (Nat.le_of_eq (List.length_map ..)) (Nat.lt_of_le_of_lt hl (by decide))) fun H' kp e _=>q H' kp (kI_put m x▸e)
noncomputable abbrev xB:List S:=[.asg (.sb (.l 5) (.l 7)) (.c (.bool true))]
noncomputable abbrev jB:List S:=[.for (.v 7) (.ex (.sub (.l 2) (.l 6))) xB]
theorem x_loop (hf:H0[fr]?=some (.list (xs.map nv))) (hfd:fr≠di) (hx:∀ x∈xs,x < n) (hn:n≤1000)
    (hN:∀ H' c,notCelO c=true→Kp [di] H0 H'→H'[di]?=some (.dict (kI T))→(∀ x∈T,x < n)→T.Nodup→N [a0,a1,a2,a3,a4,some (.ref di),a6,c] H') :
    ∀ (l:List Nat) (fuel p:Nat) (m:List Nat) c H,xs.drop p=l→l.length < fuel→notCelO c=true→Kp [di] H0 H→H[di]?=some (.dict (kI m))→(∀ x∈m,x < n)→m.Nodup→addAll m l=T →
    forTurns (.live fr) (asg O (.v 7)) (evSs O xB) fuel p [a0,a1,a2,a3,a4,some (.ref di),a6,c] H N R:=by
  intro l
  induction l with
  | nil =>
    intro fuel p m c H hd hf' nc kp e hm nd hT
    cases fuel with
    | zero=>exact absurd hf' (Nat.lt_irrefl _)
    | succ fuel =>
    have hT:m=T:=hT
    subst hT
    exact for_s (lst_of (kp.at1 hf hfd) (optB_no (map_none (drop_nil hd)) (hN _ _ nc kp e hm nd)))
  | cons x r ih =>
    intro fuel p m c H hd hf' nc kp e hm nd hT
    cases fuel with
    | zero=>exact absurd hf' (Nat.not_lt_zero _)
    | succ fuel =>
    obtain ⟨ex,hd'⟩:=drop_head hd
    obtain ⟨q1,q2⟩:=addN_ok (hx x (List.mem_of_getElem? ex)) hm nd
    refine for_s (lst_of (kp.at1 hf hfd) (optB_of (map_some ex) ?_))
    left
    refine setI_k e (Nat.le_trans (nodup_len n m nd hm) hn) fun H1 k1 e1=>?_
    left
    exact ih fuel (p+1) _ _ H1 hd' (Nat.lt_of_succ_lt_succ hf') rfl (kp.then k1) e1 q1 q2 hT
theorem RowsAt.nd {Rf:Nat}{frefs:List Nat}{found:Gr}{m:List (K × V)}{H':AH} (rf:RowsAt H Rf frefs found) (hd:H[di]?=some (.dict m)) (kp:Kp [di] H H'):RowsAt H' Rf frefs found :=
  rf.keep kp (fun z=>ne_of rf.l hd nofun (mS z)) fun r mr z=>(List.mem_iff_getElem?.mp mr).elim fun k hk=>ne_of (rf.row k r hk) hd nofun (mS z)
theorem j_loop {ri Rf:Nat}{frefs row:List Nat}{found:Gr}{m0:List (K × V)} (hd0:H0[di]?=some (.dict m0)) (hr:H0[ri]?=some (.list (row.map nv))) (rf:RowsAt H0 Rf frefs found) (hj:∀ j∈row,j < found.length) (hfn:found.length≤1000) (hfe:∀ k,k < found.length→(∀ x∈par found k,x < n)∧(par found k).length≤60) (hn:n≤1000)
    (hN:∀ H' c c',notCelO c=true→notCelO c'=true→Kp [di] H0 H'→H'[di]?=some (.dict (kI T))→(∀ x∈T,x < n)→T.Nodup→N [a0,a1,some (.ref Rf),a3,a4,some (.ref di),c,c'] H') :
    ∀ (l:List Nat) (fuel p:Nat) (m:List Nat) c c' H,row.drop p=l→l.length < fuel→notCelO c=true→notCelO c'=true→Kp [di] H0 H→H[di]?=some (.dict (kI m))→(∀ x∈m,x < n)→m.Nodup→addAll m (l.flatMap (par found))=T →
    forTurns (.live ri) (asg O (.v 6)) (evSs O jB) fuel p [a0,a1,some (.ref Rf),a3,a4,some (.ref di),c,c'] H N R:=by
  have hrd:ri≠di:=ne_of hr hd0 nofun
  intro l
  induction l with
  | nil =>
    intro fuel p m c c' H hd hf' nc nc' kp e hm nd hT
    cases fuel with
    | zero=>exact absurd hf' (Nat.lt_irrefl _)
    | succ fuel =>
    have hT:m=T:=hT
    subst hT
    exact for_s (lst_of (kp.at1 hr hrd) (optB_no (map_none (drop_nil hd)) (hN _ _ _ nc nc' kp e hm nd)))
  | cons x r ih =>
    intro fuel p m c c' H hd hf' nc nc' kp e hm nd hT
    cases fuel with
    | zero=>exact absurd hf' (Nat.not_lt_zero _)
    | succ fuel =>
    obtain ⟨ex,hd'⟩:=drop_head hd
    have hxn:=hj x (List.mem_of_getElem? ex)
    obtain ⟨f1,f2⟩:=hfe x hxn
    rw [List.flatMap_cons,addAll_app] at hT
    refine for_s (lst_of (kp.at1 hr hrd) (optB_of (map_some ex) ?_))
    left
    refine sub_rows (rf.nd hd0 kp) hxn hfn fun r1 _ r2=>?_
    left
    refine x_loop (n:=n) r2 (ne_of r2 e nofun) f1 hn (fun H1 c1 n1 k1 e1 q1 q2=>?_) (par found x) _ 0 m c' H rfl (Nat.lt_of_le_of_lt f2 (by decide)) nc' .refl e hm nd rfl
    left
    exact ih fuel (p+1) _ _ _ H1 hd' (Nat.lt_of_succ_lt_succ hf') rfl n1 (kp.then k1) e1 q1 q2 hT
noncomputable abbrev reB:List S:=[.asg (.v 5) (.dct [((.l 3),(.c (.bool true)))]),
      .for (.v 6) (.ex (.ite (.cmp .nin (.l 3) (.l 1)) (.l 4) (.lst []))) jB,
      .ex (.app (.l 2) (.sorted (.l 5)))]
theorem re_loop {Rl bi Rf:Nat}{refs bd:List Nat}{g:Gr} (ra:RowsAt H0 Rl refs g) (wf:∀ k,k < g.length→(∀ j∈par g k,j < k)∧(par g k).length≤3) (hn:g.length≤6) (hb:H0[bi]?=some (.list (bd.map nv))) (hRf:H0.length≤Rf)
    (hN:∀ H' frefs c3 c4 c5 c6 c7,Kp [] H0 H'→RowsAt H' Rf frefs (reached (cut g bd))→(reached (cut g bd)).length=g.length→(∀ k,k < g.length→(∀ x∈par (reached (cut g bd)) k,x < g.length)∧(par (reached (cut g bd)) k).length≤60)→(∀ r∈frefs,Rf < r)→N [some (.ref Rl),some (.ref bi),some (.ref Rf),c3,c4,c5,c6,c7] H') :
    ∀ (l:List Nat) (fuel p:Nat) (frefs:List Nat) (found:Gr) c3 c4 c5 c6 c7 H,refs.drop p=l→p+l.length=g.length→l.length < fuel→notCelO c3=true→notCelO c4=true→notCelO c5=true→notCelO c6=true→notCelO c7=true→Kp [] H0 H→RowsAt H Rf frefs found→found.length=p→(∀ k,k < p→(∀ x∈par found k,x < g.length)∧(par found k).length≤60)→(∀ r∈frefs,Rf < r) →
      reachGo p ((cut g bd).drop p) found=reached (cut g bd) →
    forTurns (.enum Rl) (asg O (.tup [.v 3,.v 4])) (evSs O reB) fuel p [some (.ref Rl),some (.ref bi),some (.ref Rf),c3,c4,c5,c6,c7] H N R:=by
  intro l
  induction l with
  | nil =>
    intro fuel p frefs found c3 c4 c5 c6 c7 H hd hpl hf n3 n4 n5 n6 n7 kp rf hfl hfe hfr e
    cases fuel with
    | zero=>exact absurd hf (Nat.lt_irrefl _)
    | succ fuel =>
    have hp:p=g.length:=hpl
    subst hp
    rw [List.drop_eq_nil_of_le (Nat.le_of_eq (cut_len g bd))] at e
    have e:found=reached (cut g bd):=e
    rw [← e] at hN
    exact for_s (lst_of (kp.at0 ra.l) (optB_no (map_none (drop_nil hd)) (hN H frefs _ _ _ _ _ kp rf hfl hfe hfr)))
  | cons r0 r ih =>
    intro fuel p frefs found c3 c4 c5 c6 c7 H hd hpl hf n3 n4 n5 n6 n7 kp rf hfl hfe hfr e
    cases fuel with
    | zero=>exact absurd hf (Nat.not_lt_zero _)
    | succ fuel =>
    obtain ⟨er,hd'⟩:=drop_head hd
    have hp:p < g.length:=ra.len▸(gS er).1
    have hrow:=ra.row p r0 er
    have hpG:p < (cut g bd).length:=(cut_len g bd).symm▸hp
    have hdrop:(cut g bd).drop p=par (cut g bd) p :: (cut g bd).drop (p+1):=by
      rw [List.drop_eq_getElem_cons hpG]
      unfold par
      rw [List.getD,List.getElem?_eq_getElem hpG];rfl
    rw [hdrop] at e
    have e:reachGo (p+1) ((cut g bd).drop (p+1)) (found++[isortN (addAll [p] ((par (cut g bd) p).flatMap (par found)))])=reached (cut g bd):=e
    refine for_s (lst_of (kp.at0 ra.l) (optB_of (map_some er) ?_))
    left
    refine dct_k (kvs:=kI [p]) rfl fun H1 k1 e1 l1=>?_
    left
    refine nin_nv (k1.at0 (kp.at0 hb)) ?_
    have key:∀ {loc:Loc} (h4:loc[4]?=some (some (.ref r0))) (Q:V→AH→Prop),(∀ ri H2,Kp [] H1 H2→H2[ri]?=some (.list ((par (cut g bd) p).map nv))→Q (.ref ri) H2)→iteB (!bd.contains p) (evE O (.l 4) loc H1 Q) (evE O (.lst []) loc H1 Q):=by
      intro loc h4 Q q
      rw [cut_par hp] at q
      cases hc:bd.contains p with
      | true =>
        rw [hc] at q
        refine iteB_f rfl ?_
        left
        exact new_k (lim_of rfl) fun H2 k2 e2 _=>q _ H2 k2 e2
      | false =>
        rw [hc] at q
        refine iteB_t rfl ?_
        left
        exact q r0 H1 .refl (k1.at0 (kp.at0 hrow))
    refine key rfl _ fun ri H2 k2 e2=>?_
    obtain ⟨wf1,wf2⟩:(∀ j∈par (cut g bd) p,j < p)∧(par (cut g bd) p).length≤3:=by
      rw [cut_par hp]
      split
      · exact ⟨nofun,Nat.zero_le _⟩
      · exact wf p hp
    have rf2:=(rf.mem k1).mem k2
    have d2:=k2.at0 e1
    have hp6:found.length≤6:=hfl▸Nat.le_trans (Nat.le_of_lt hp) hn
    left
    refine j_loop (n:=g.length) d2 e2 rf2 (fun j m=>hfl.symm▸wf1 j m) (Nat.le_trans hp6 (by decide)) (fun k hk=>hfe k (hfl▸hk)) (Nat.le_trans hn (by decide)) (fun H3 c c' nc nc' k3 e3 q1 q2=>?_) (par (cut g bd) p) _ 0 [p] c6 c7 H2 rfl (Nat.lt_of_le_of_lt wf2 (by decide)) n6 n7 .refl d2 (fC ⟨hp,nofun⟩) (List.pairwise_singleton ..) rfl
    have hll:=Nat.le_trans (nodup_len _ _ q2 q1) hn
    have rf3:=rf2.nd d2 k3
    have eR:=rf3.l
    left
    refine sorted_dict e3 (Nat.lt_of_le_of_lt hll (by decide)) fun H4 k4 e4 l4=>?_
    have rf4:=rf3.mem k4
    have z3:Rf < H3.length:=lt_of eR
    refine app_k rf4.l (Nat.lt_of_le_of_lt (Nat.le_of_eq ((List.length_map ..).trans rf.len)) (Nat.lt_of_le_of_lt hp6 (by decide))) fun H5 k5 e5 _=>?_
    left
    have k05:Kp [] H0 H5:=((((kp.then k1).then k2).old k3 fun i m h=>lt_no kp.len (mS m▸h)).then k4).old k5 fun i m h=>lt_no hRf (mS m▸h)
    refine ih fuel (p+1) (frefs++[H3.length]) _ _ _ _ _ _ H5 hd' ((Nat.add_assoc ..).trans ((congrArg (p+·) (Nat.add_comm ..)).trans hpl)) (Nat.lt_of_succ_lt_succ hf) rfl rfl rfl nc nc' k05 (rf4.push e4 (Nat.ne_of_gt z3) (fun r m=>Nat.ne_of_gt (hfr r m)) k5 (e5.trans (by rw [List.map_append];rfl))) (List.length_append.trans (congrArg Nat.succ hfl)) (fun k hk=>?_) (mem_app hfr z3) e
    by_cases hk2:k < found.length
    · rw [par_app_lt hk2];exact hfe k (hfl▸hk2)
    · cases Nat.le_antisymm (Nat.le_of_lt_succ hk) (hfl▸Nat.not_lt.mp hk2)
      rw [← hfl,par_app_eq,hfl]
      exact ⟨isortN_mem q1,(isortN_len _).symm▸Nat.le_trans hll (by decide)⟩
theorem reached_ok {d Rl bi:Nat}{refs bd:List Nat}{g:Gr} (ra:RowsAt H Rl refs g) (wf:wfB g=true) (hn:g.length≤6) (hb:H[bi]?=some (.list (bd.map nv)))
    (hq:∀ H' Rf frefs,Kp [] H H'→RowsAt H' Rf frefs (reached (cut g bd))→(reached (cut g bd)).length=g.length→(∀ k,k < g.length→(∀ x∈par (reached (cut g bd)) k,x < g.length)∧(par (reached (cut g bd)) k).length≤60)→H.length≤Rf→(∀ r∈frefs,H.length≤r)→Q (.ref Rf) H') :
    callN (d+1) .reached [.ref Rl,.ref bi] H Q:=by
  refine call_of (loc:=[some (.ref Rl),some (.ref bi),none,none,none,none,none,none]) rfl rfl rfl rfl ?_
  left
  refine new_k (lim_of rfl) fun H1 k1 e1 _=>?_
  have rl1:=k1.at0 ra.l
  left
  refine re_loop (O:=orc d) ra (fun k hk=>wf_of wf hk) hn hb (Nat.le_refl _) (fun H2 frefs c3 c4 c5 c6 c7 k2 rf h1 h2 h3=>?_) refs _ 0 [] [] none none none none none H1 rfl ((Nat.zero_add _).trans ra.len) (Nat.lt_of_le_of_lt (ra.len▸hn) (by decide)) rfl rfl rfl rfl rfl k1 ⟨e1,rfl,nofun⟩ rfl nofun nofun rfl
  left
  exact hq H2 _ frefs k2 rf h1 h2 (Nat.le_refl _) fun r m=>Nat.le_of_lt (h3 r m)
end
noncomputable def LA (B:Nat→Prop) (L:Ls) (i:Nat):Prop:=B i∨i∈[L.w,L.I,L.R,L.T,L.st,L.hs,L.hk,L.kp]∨i∈L.refs
structure Bs (H:AH) (A B:Nat→Prop) (L:Ls) (D C n:Nat):Prop where
  li:LI H B L
  dk:DeckI H D C n
  tab:∃ b,H[0]?=some (.tab b)
  sub:∀ i,LA B L i→A i
  a0:¬ A 0
  aD:¬ A D
  aC:¬ A C
  ab:∀ i,A i→i < H.length
noncomputable def Au (A S:Nat→Prop):Nat→Prop:=fun j=>A j∨S j
section
variable {H H' H0:AH}{A A' B P S A0 P0:Nat→Prop}{L:Ls}{W:Wk}{D C n m n0 d:Nat}{Q:V→AH→Prop}
theorem LI.fz (X:LI H B L) (f:Fz A H H') (h:∀ i,LA B L i→A i):LI H' B L:=by
  have m:∀ i,i∈[L.w,L.I,L.R,L.T,L.st,L.hs,L.hk,L.kp]→A i:=fun i hi=>h i (.inr (.inl hi))
  obtain ⟨kn,k1,k2,k3⟩:=X.known
  obtain ⟨ks,s1,s2,s3,s4⟩:=X.kept
  exact {
    w:=f.at X.w (m _ (.head _))
    ids:=f.at X.ids (m _ (.tail _ (.head _)))
    rows:=⟨f.at X.rows.l (m _ (.tail _ (.tail _ (.head _)))),X.rows.len,fun k r e=>f.at (X.rows.row k r e) (h _ (.inr (.inr (List.mem_of_getElem? e))))⟩
    times:=f.at X.times (m _ (.tail _ (.tail _ (.tail _ (.head _)))))
    tl:=X.tl
    st:=f.at X.st (m _ (.tail _ (.tail _ (.tail _ (.tail _ (.head _))))))
    hs:=f.at X.hs (m _ (.tail _ (.tail _ (.tail _ (.tail _ (.tail _ (.head _)))))))
    known:=⟨kn,f.at k1 (m _ (.tail _ (.tail _ (.tail _ (.tail _ (.tail _ (.tail _ (.head _)))))))),k2,k3⟩
    kept:=⟨ks,f.at s1 (m _ (.tail _ (.tail _ (.tail _ (.tail _ (.tail _ (.tail _ (.tail _ (.head _))))))))),s2,s3,fun k hk=>by
      obtain ⟨c,h1,x,p1,p2,p3⟩:=s4 k hk
      exact ⟨c,h1,⟨f.at x.h2 (h _ (.inl p1)),f.at x.h3 (h _ (.inl p2)),f.at x.h4 (h _ (.inl p3)),x.h5⟩,p1,p2,p3⟩⟩
    bst:=X.bst
    bkp:=X.bkp
    bb:=fun i b=>Nat.lt_of_lt_of_le (X.bb i b) f.len
    nI:=X.nI
    nR:=X.nR
    nT:=X.nT
    rI:=X.rI
    dIR:=X.dIR
    dIT:=X.dIT
    dRT:=X.dRT
    dk:=X.dk
    dw:=X.dw
    n:=X.n }
theorem Bs.step (b:Bs H A B L D C n) (c:Ck H' A' P W D C m) (f:Fz A H H') (s:∀ i,A i→A' i):Bs H' A B L D C m :=
  ⟨b.li.fz f b.sub,c.dk,c.tab,b.sub,b.a0,b.aD,b.aC,fun i a=>c.ab i (s i a)⟩
theorem Bs.nil (b:Bs H A B L D C n) (kp:Kp [] H H'):Bs H' A B L D C n∧Fz A H H' :=
  have f:Fz A H H':=.of kp b.ab nofun
  ⟨⟨b.li.fz f b.sub,b.dk.mem kp,b.tab.imp fun _ t=>kp.at0 t,b.sub,b.a0,b.aD,b.aC,fun i a=>Nat.lt_of_lt_of_le (b.ab i a) f.len⟩,f⟩
theorem Bs.draw (b:Bs H A B L D C n) (kp:Kp [D,C] H H') (dk:DeckI H' D C m):Bs H' A B L D C m∧Fz A H H' :=
  have f:Fz A H H':=.of kp b.ab (all2 b.aD b.aC)
  ⟨⟨b.li.fz f b.sub,dk,b.tab.imp fun _ t=>kp.at2 t (b.dk.n0 b.tab).1.symm (b.dk.n0 b.tab).2.symm,b.sub,b.a0,b.aD,b.aC,fun i a=>Nat.lt_of_lt_of_le (b.ab i a) f.len⟩,f⟩
theorem Bs.weak (b:Bs H A B L D C n) (h:n≤m):Bs H A B L D C m:=⟨b.li,b.dk.mono h,b.tab,b.sub,b.a0,b.aD,b.aC,b.ab⟩
theorem Bs.add (b:Bs H A B L D C n) (b0:Bs H0 A0 B L D C n0) (h:∀ i,S i→H0.length≤i∧i < H.length):Bs H (Au A S) B L D C n :=
  have ne:∀ {j:Nat},j < H0.length→¬ S j:=fun hj s=>lt_no (h _ s).1 hj
  ⟨b.li,b.dk,b.tab,fun i a=>.inl (b.sub i a),fun a=>a.elim b.a0 (ne (b0.tab.elim fun _ t=>lt_of t)),fun a=>a.elim b.aD (ne b0.dk.lt.1),fun a=>a.elim b.aC (ne b0.dk.lt.2),fun i a=>a.elim (b.ab i) fun s=>(h i s).2⟩
theorem Ck.addS (c:Ck H A P W D C n) (c0:Ck H0 A0 P0 W D C n0) (h:∀ i,S i→H0.length≤i∧i < H.length):Ck H (Au A S) P W D C n :=
  have ne:∀ {j:Nat},j < H0.length→¬ S j:=fun hj s=>lt_no (h _ s).1 hj
  ⟨c.wi,c.dk,c.tab,c.p0,c.pD,c.pC,fun a=>a.elim c.a0 (ne (c0.tab.elim fun _ t=>lt_of t)),fun a=>a.elim c.aD (ne c0.dk.lt.1),fun a=>a.elim c.aC (ne c0.dk.lt.2),fun a=>a.elim c.aK (ne (c0.wi.bound _ c0.wi.pkn)),fun a=>a.elim c.aL (ne (c0.wi.bound _ c0.wi.plv)),fun i a=>a.elim (c.ab i) fun s=>(h i s).2⟩
theorem Bs.walk (b:Bs H A B L D C n) (kp:Kp [] H H') (X:WI H' P W) (new:∀ i,P i→B i∨H.length≤i) (hk:H.length≤W.kn) (hl:H.length≤W.lv):Ck H' A P W D C n∧Fz A H H' :=
  have b':=(b.nil kp).1
  have out:∀ {i:Nat},i < H.length→¬ A i→¬ P i:=fun h na p=>(new _ p).elim (fun q=>na (b.sub _ (.inl q))) fun q=>lt_no q h
  ⟨⟨X,b'.dk,b'.tab,out (b.tab.elim fun _ t=>lt_of t) b.a0,out b.dk.lt.1 b.aD,out b.dk.lt.2 b.aC,b.a0,b.aD,b.aC,fun a=>lt_no hk (b.ab _ a),fun a=>lt_no hl (b.ab _ a),b'.ab⟩,(b.nil kp).2⟩
theorem b_draw_ok (b:Bs H A B L D C n) (hn:n < 10000) (hb:0 < m) (hb':m < 1000) (hq:∀ H' (r:Nat),Bs H' A B L D C (n+1)→Fz A H H'→r < m→Q (nv r) H'):callN (d+1) .draw [.ref D,nv m] H Q :=
  draw_ok b.dk hn hb hb' fun H' r kp dk hr=>hq H' r (b.draw kp dk).1 (b.draw kp dk).2 hr
theorem ids_map {O:Orc}{i:Nat}{l:List Nat}{loc:Loc}{x:E} (X:LI H B L) (h:H[i]?=some (.list (l.map nv))) (hl:l.length≤20) (hlt:∀ x∈l,x < L.g.length) (hx:∀ k R,R (.ref L.I) H→evE1 O x (some (nv k) :: loc) H R)
    (q:∀ H',Kp [] H H'→H'[H.length]?=some (.list (l.map idv))→H'.length=H.length+1→Q (.ref H.length) H'):compTurns (.live i) 1 (fun _ H Q=>Q true H) (fun o=>evE O (.sub x (.l 0)) (o++loc)) fuelFor 0 [] H fun vs H=>newList vs H Q:=by
  refine comp_map l nv idv (fun x=>[some (nv x)]) (fun _=>true) (it_live h) (fun x _ B q=>.inl ⟨rfl,q⟩) (fun x hx R r=>r) (fun y hy _ S s=>?_) (Nat.lt_of_le_of_lt hl (by decide)) ?_
  · left
    refine hx y _ ?_
    left
    exact sub_ids X.ids (hlt y hy) (Nat.le_trans X.n (by decide)) s
  rw [List.filter_eq_self.mpr fun _ _=>rfl]
  exact new_k (ids_lim (Nat.le_trans hl (by decide))) q
set_option maxHeartbeats 4000000 in
theorem border_right_ok (b:Bs H A B L D C n) (wf:wfB L.g=true) (hpos:0 < L.g.length) (hnn:n < 9000)
    (hchk:∀ bd:List Nat,bd≠[]→bd.length≤2→(∀ x∈bd,x < L.g.length)→∀ x,x < L.g.length→pairChk (cut L.g bd) (reached (cut L.g bd)) (L.g.length - 1) x=true)
    (hq:∀ H',Bs H' A B L D C (n+4)→Fz A H H'→Q (.bool true) H'):callN (d+10) .border_right [.ref D,.ref L.w] H Q:=by
  have hn:=b.li.n
  have hn6:L.g.length≤1000:=Nat.le_trans hn (by decide)
  have hrl:(List.range L.g.length).length≤1000:=List.length_range.symm▸hn6
  have w0:=b.li.w
  refine call_of (loc:=[some (.ref D),some (.ref L.w),none,none,none,none,none,none]) rfl rfl rfl rfl ?_
  left
  refine len_list b.li.ids (ids_lim hrl) ?_
  rw [List.length_map,List.length_range]
  left
  refine b_draw_ok (d:=d+8) (m:=2) b (Nat.lt_trans hnn (by decide)) (by decide) (by decide) fun H1 r0 b1 f1 hr0=>?_
  have hr3:1+r0≤2:=Nat.add_le_add_left (Nat.le_of_lt_succ hr0) 1
  left
  refine ⟨rng_of (m:=1+r0) (Nat.le_trans hr3 (by decide)),?_⟩
  have hrm:((List.range (1+r0)).map nv).length=1+r0:=by rw [List.length_map,List.length_range]
  refine comp_ok ((List.range (1+r0)).map nv) (fun p acc H'=>∃ bd:List Nat,acc=bd.map nv∧bd.length=p∧(∀ x∈bd,x < L.g.length)∧Bs H' A B L D C (n+1+p)∧Fz A H H') (fun p acc H' i A B q=>q) (fun p acc H' ⟨ts,a,b,_⟩=>by rw [a,List.length_map,b]) (Nat.lt_of_le_of_lt (Nat.le_of_eq hrm) (Nat.lt_of_le_of_lt hr3 (by decide))) (fun p v acc H' K hv ⟨bd,a,b',hlt,x,f⟩ hK=>?_) (fun acc H2 ⟨bd,a,hl,hlt,b2,f2⟩=>?_) ⟨[],rfl,rfl,nofun,b1,f1⟩
  · have hp:p < 1+r0:=hrm▸(gS hv).1
    left
    refine b_draw_ok (d:=d+8) x (by omega) hpos (Nat.lt_of_le_of_lt hn (by decide)) fun H2 r b2 f2 hr=>?_
    exact hK _ H2 ⟨bd++[r],by rw [a,List.map_append];rfl,by rw [List.length_append,b'];rfl,mem_app hlt hr,b2,f.trans f2⟩
  subst a
  rw [hrm] at hl b2
  have hb2:bd.length≤2:=hl▸hr3
  have hb0:bd≠[]:=fun q=>by rw [q] at hl;exact absurd hl (Nat.ne_of_lt (Nat.lt_of_lt_of_le Nat.zero_lt_one (Nat.le_add_right ..)))
  have b2:Bs H2 A B L D C (n+3):=b2.weak (by omega)
  have hchk:=hchk bd hb0 hb2 hlt
  refine new_k (ints_lim (Nat.le_trans hb2 (by decide))) fun H3 k3 e3 _=>?_
  obtain ⟨b3,f3⟩:=b2.nil k3
  have b3:=b3.add b2 (S:=fun i=>i=H2.length) fun i q=>by rw [q];exact ⟨Nat.le_refl _,lt_of e3⟩
  have f03:=f2.trans f3
  have s3:∀ i,A i→Au A (fun i=>i=H2.length) i:=fun i a=>.inl a
  have a3:Au A (fun i=>i=H2.length) H2.length:=.inr rfl
  revert b3 s3 a3
  generalize Au A (fun i=>i=H2.length)=A3
  intro b3 s3 a3
  have w3:=b3.li.w
  left
  refine ids_map b3.li e3 (Nat.le_trans hb2 (by decide)) hlt (fun k R r=>by show evE _ _ _ _ _;(left);exact r) fun H4 k4 e4 _=>?_
  refine tuple_list e4 (ids_lim (Nat.le_trans hb2 (by decide))) ?_
  obtain ⟨b4,f4⟩:=b3.nil k4
  left
  refine new_walk_ok (d:=d+8) b4.li wf (fun k m=>Nat.lt_of_lt_of_le (hlt k m) (Nat.le_trans hn (by decide))) (Nat.le_trans hb2 (by decide)) (.inr rfl) fun H5 P W k5 X5 w1 w2 w3' w4 new5 hk5 hl5=>?_
  obtain ⟨ck5,f5⟩:=b4.walk k5 X5 new5 hk5 hl5
  have b5:=b4.step ck5 f5 fun i a=>a
  have w5:=b5.li.w
  rw [← w1]
  left
  refine reached_ok (d:=d+8) b5.li.rows wf hn (f5.at (f4.at e3 a3) a3) fun H6 Rf frefs k6 rr hrl hel lRf lfr=>?_
  obtain ⟨ck6,f6⟩:=ck5.nil k6
  have b6:=b5.step ck6 f6 fun i a=>a
  have ck6:=ck6.addS ck5 (S:=fun i=>i=Rf∨i∈frefs) fun i s=>s.elim (fun z=>by rw [z];exact ⟨lRf,lt_of rr.l⟩) fun s=>⟨lfr i s,rr.lt i s⟩
  have s6:∀ i,A3 i→Au A3 (fun i=>i=Rf∨i∈frefs) i:=fun i a=>.inl a
  have env6:Env H6 (Au A3 fun i=>i=Rf∨i∈frefs) L Rf frefs (reached (cut L.g bd)) :=
    ⟨b6.li.w,b6.li.ids,rr,s6 _ (b6.sub _ (.inr (.inl (.head _)))),s6 _ (b6.sub _ (.inr (.inl (.tail _ (.head _))))),.inr (.inl rfl),fun r m=>.inr (.inr m),hn,hrl,hel⟩
  have e6:=f6.at (f5.at (f4.at e3 a3) a3) a3
  have f36:=f4.trans (f5.trans f6)
  have a6:=s6 _ a3
  revert ck6 s6 env6 a6 hchk
  generalize (Au A3 fun i=>i=Rf∨i∈frefs)=A6
  generalize reached (cut L.g bd)=re
  intro hchk ck6 s6 env6 a6
  left
  refine ⟨rng_of hn6,?_⟩
  refine for_ok (it:=.vals ((List.range L.g.length).map nv)) ((List.range L.g.length).map nv) (fun p loc H'=>∃ (P':Nat→Prop) (c6 c7:Option V),loc=[some (.ref D),some (.ref L.w),some (nv L.g.length),some (.ref H2.length),some (.inst .Walk W.w),some (.ref Rf),c6,c7]∧notCelO c6=true∧notCelO c7=true∧Ck H' A6 P' W D C (n+3)∧Fz A6 H6 H')
    (fun p loc H' i A B q=>q) (fun p v loc H' K hv i hK=>?_) (fun loc H7 i=>?_) fuelFor 0 _ _ (Nat.lt_of_le_of_lt (Nat.le_of_eq ((List.length_map ..).trans List.length_range)) (Nat.lt_of_le_of_lt hn (by decide))) (Nat.zero_le _) ⟨P,none,none,rfl,rfl,rfl,ck6,.refl⟩
  · obtain ⟨P',c6,c7,rfl,n6,n7,ck',f'⟩:=i
    rw [List.getElem?_map] at hv
    obtain ⟨y,hy,rfl⟩:=Option.map_eq_some_iff.mp hv
    have hy:=List.mem_range.mp (List.mem_of_getElem? hy)
    have env':=env6.fz f'
    have b':=b6.step ck' (f'.mono s6) s6
    have w':=env'.w
    have hpar:par W.g y=if bd.contains y then [] else par L.g y:=by rw [w3',cut_par hy]
    obtain ⟨hwl,hdeg⟩:=wf_of wf hy
    left
    refine isin_nv (f'.at e6 a6) ?_
    have key:∀ {O:Orc} (Q:V→AH→Prop),(∀ H'',Kp [] H' H''→H''[H'.length]?=some (.list ((par W.g y).map idv))→H''.length=H'.length+1→Q (.ref H'.length) H'')→iteB (bd.contains y) (evE O (.lst []) [some (.ref D),some (.ref L.w),some (nv L.g.length),some (.ref H2.length),some (.inst .Walk W.w),some (.ref Rf),some (nv y),c7] H' Q)
        (evE O (.comp (.sub (.sub (.l 2) (.c (.str [105,100,115]))) (.l 0)) 1 (.ex (.sub (.sub (.l 1) (.c (.str [114,111,119,115]))) (.l 6))) none) [some (.ref D),some (.ref L.w),some (nv L.g.length),some (.ref H2.length),some (.inst .Walk W.w),some (.ref Rf),some (nv y),c7] H' Q):=by
      intro O Q q
      rw [hpar] at q
      cases hc:bd.contains y with
      | true =>
        rw [hc] at q
        refine iteB_t rfl ?_
        left
        exact new_k (lim_of rfl) q
      | false =>
        rw [hc] at q
        refine iteB_f rfl ?_
        left
        refine sub_rows b'.li.rows hy hn6 fun r1 _ r2=>?_
        left
        exact ids_map b'.li r2 (Nat.le_trans hdeg (by decide)) (fun x m=>Nat.lt_trans (hwl x m) hy) (fun k R r=>by show evE _ _ _ _ _;(left);exact r) q
    refine key _ fun H7 k7 e7 _=>?_
    obtain ⟨ck7,f7⟩:=ck'.nil k7
    have ck7:=ck7.add ck' (Nat.le_refl _) (lt_of e7)
    have w7:=f7.at env'.w env'.aw
    have fl7:=ck7.wi.fl
    left
    refine sub_ids (f7.at env'.ids env'.aI) hy hn6 ?_
    left
    refine k_parents (d:=d+4) ck7 (w2▸hy) fun H8 P8 i8 ck8 f8 b8 _=>?_
    have hlp:(par W.g y).length≤1000:=Nat.le_trans (ck7.wi.deg' (w2▸hy)) (by decide)
    refine list_k b8 (ids_lim hlp) fun H9 k9 q9 _=>?_
    obtain ⟨ck9,f9⟩:=ck8.nil k9
    have f79:=f8.trans f9
    left
    refine ne_same q9 (f79.at e7 (.inr rfl)) (iteB_f rfl ?_)
    left
    exact hK _ _ ⟨P8,_,_,rfl,rfl,rfl,ck9.weak fun i a=>.inl a,f'.trans (f7.trans (f79.mono fun i a=>.inl a))⟩
  · obtain ⟨P7,c6,c7,rfl,n6,n7,ck7,f7⟩:=i
    left
    refine k_draw (d:=d+8) (m:=L.g.length) ck7 (Nat.lt_of_lt_of_le (Nat.add_lt_add_right hnn 3) (by decide)) hpos (Nat.lt_of_le_of_lt hn (by decide)) fun H8 x ck8 f8 hx=>?_
    rw [show ((L.g.length:Nat):Int) - 1=((L.g.length - 1:Nat):Int) from (Int.natCast_sub hpos).symm]
    left
    refine pair_right_ok (d:=d) ck8 ((env6.fz f7).fz f8) (by rw [w2]) (Nat.sub_lt hpos (by decide)) hx (by rw [w3'];exact hchk x hx) fun H9 P9 ck9 f9=>?_
    have f69:=f7.trans (f8.trans f9)
    have bb:Bs H9 A3 B L D C (n+4):=b6.step ck9 (f69.mono s6) s6
    exact hq H9 ⟨bb.li,bb.dk,bb.tab,b.sub,b.a0,b.aD,b.aC,fun i a=>bb.ab i (s3 i a)⟩ (f03.trans ((f36.mono s3).trans (f69.mono fun i a=>s6 i (s3 i a))))
end
section
variable {H H':AH}{Q:V→AH→Prop}{d i:Nat}
theorem hash_init_ok (h:H[i]?=some (.flds .CountingHasher [])) (hq:∀ H' hk,Kp [i] H H'→H'[i]?=some (.flds .CountingHasher [(.size,.int 4),(.known,.ref hk)])→H'[hk]?=some (.dict [])→H.length≤hk→Q .none H'):callN (d+1) .hash_init [.inst .CountingHasher i,.int 4] H Q:=by
  refine call_of rfl rfl rfl rfl ?_
  left
  refine setf_k h (.head _) (Nat.zero_lt_succ _) fun H1 k1 h1 l1=>?_
  left
  refine dct_k rfl fun H2 k2 e2 _=>?_
  left
  refine setf_k (k2.at0 h1) (.tail _ (.head _)) (show 1 < 100 by decide) fun H3 k3 h3 _=>?_
  left
  exact hq _ _ (k1.then (k2.nil.then k3)) h3 (k3.at1 e2 (ne_old h1).symm) (Nat.le_of_eq l1.symm)
theorem store_init_ok {hv:V} (h:H[i]?=some (.flds .MemoryStore [])) (nv:notCel hv=true) (hq:∀ H' kp,Kp [i] H H'→H'[i]?=some (.flds .MemoryStore [(.hasher,hv),(.kept,.ref kp)])→H'[kp]?=some (.dict [])→H.length≤kp→Q .none H'):callN (d+1) .store_init [.inst .MemoryStore i,hv] H Q:=by
  refine call_of rfl rfl rfl rfl ?_
  left
  refine setf_k h (.head _) (Nat.zero_lt_succ _) fun H1 k1 h1 l1=>?_
  left
  refine dct_k rfl fun H2 k2 e2 _=>?_
  left
  refine setf_k (k2.at0 h1) (.tail _ (.head _)) (show 1 < 100 by decide) fun H3 k3 h3 _=>?_
  left
  exact hq _ _ (k1.then (k2.nil.then k3)) h3 (k3.at1 e2 (ne_old h1).symm) (Nat.le_of_eq l1.symm)
theorem for_none {tgt:V→Loc→AH→(Loc→AH→Prop)→Prop}{body:Loc→CS}{loc:Loc}{N:Loc→AH→Prop}{R:V→AH→Prop} (h:H[i]?=some (.list [])) (hN:N loc H):forTurns (.live i) tgt body fuelFor 0 loc H N R:=for_s (n:=1999) (lst_of h (optB_no rfl hN))
set_option maxHeartbeats 1000000 in
theorem check_tree_ok {ti ei:Nat} (h:H[ti]?=some (.flds .Tree [(.entries,.ref ei)])) (he:H[ei]?=some (.list [])) (hq:∀ H',Kp [] H H'→Q .none H'):callN (d+2) .check_tree [.inst .Tree ti] H Q:=by
  refine call_of rfl rfl rfl rfl ?_
  left
  refine call_of rfl rfl rfl rfl ?_
  left
  refine new_k (lim_of rfl) fun H1 k1 e1 _=>?_
  left
  refine dct_k rfl fun H2 k2 e2 _=>?_
  have k02:=k1.then k2
  have h2:=k02.at0 h
  have he2:=k02.at0 he
  left
  refine for_none he2 ?_
  left
  refine len_list (k2.at0 e1) (lim_of rfl) ?_
  left
  refine iteB_f rfl ?_
  left
  exact hq H2 k02
theorem tree_octets_ok {ti ei:Nat} (h:H[ti]?=some (.flds .Tree [(.entries,.ref ei)])) (he:H[ei]?=some (.list [])) (hq:∀ H',Kp [] H H'→Q (.bytes []) H'):callN (d+1) .tree_octets [.inst .Tree ti] H Q:=by
  refine call_of rfl rfl rfl rfl ?_
  left
  refine new_k (lim_of rfl) fun H1 k1 e1 _=>?_
  have h1:=k1.at0 h
  have he1:=k1.at0 he
  left
  refine for_none he1 ?_
  left
  exact join_bytes (bs:=[]) e1 (Nat.zero_le _) (Nat.zero_le _) (hq H1 k1)
noncomputable abbrev kTreeB:List UInt8:=[116,114,101,101]
theorem oct_tree:oct kTreeB []=[116,114,101,101,32]++[48,0]:=by
  unfold oct
  rw [show digits ([]:List UInt8).length=[48] by decide +kernel];rfl
theorem write_tree_ok {st hs hk kp ti ei:Nat} (h0:H[st]?=some (.flds .MemoryStore [(.hasher,.inst .CountingHasher hs),(.kept,.ref kp)])) (h1:H[hs]?=some (.flds .CountingHasher [(.size,.int 4),(.known,.ref hk)]))
    (h2:H[hk]?=some (.dict [])) (h3:H[kp]?=some (.dict [])) (hne:hk≠kp) (h:H[ti]?=some (.flds .Tree [(.entries,.ref ei)])) (he:H[ei]?=some (.list []))
    (hq:∀ H',Kp [hk,kp] H H'→H'[hk]?=some (.dict [(.b ([116,114,101,101,32]++[48,0]),nv 1)])→H'[kp]?=some (.dict [(.b (bid 1),.tup [.bytes kTreeB,.inst .Tree ti])])→Q (.bytes (bid 1)) H') :
    callN (d+4) .write_tree [.inst .MemoryStore st,.inst .Tree ti] H Q:=by
  refine call_of rfl rfl rfl rfl ?_
  left
  refine check_tree_ok (d:=d+1) h he fun H1 k1=>?_
  have st1:=k1.at0 h0
  have ti1:=k1.at0 h
  left
  refine tree_octets_ok (d:=d+2) ti1 (k1.at0 he) fun H2 k2=>?_
  have k02:=k1.then k2
  left
  refine keep_ok (d:=d) (k02.at0 h0) (k02.at0 h1) (k02.at0 h2) (k02.at0 h3) rfl rfl (show 4≤10 by decide) (Nat.zero_le _) (fun _=>rfl) rfl (Nat.zero_le _) (Nat.zero_le _) hne rfl fun H3 k3 e3 e4=>?_
  rw [List.append_nil,oct_tree] at e3
  exact hq H3 (k02.nil.then k3) e3 e4
theorem start_w {st hs hk kp s0:Nat}{l0 l1 l3 l4 l5 l6 l7 l8 l9 l10 l11 l12 l13:Option V} (h0:H[st]?=some (.flds .MemoryStore [(.hasher,.inst .CountingHasher hs),(.kept,.ref kp)])) (h1:H[hs]?=some (.flds .CountingHasher [(.size,.int 4),(.known,.ref hk)]))
    (h2:H[hk]?=some (.dict [])) (h3:H[kp]?=some (.dict [])) (hne:hk≠kp) (z0:s0≤st) (z1:s0≤hs) (z2:s0≤hk) (z3:s0≤kp) (z4:s0≤H.length)
    (hq:∀ H' B L,Kp [hk,kp] H H'→LI H' B L→L.g=[]→L.refs=[]→L.ts=[]→L.st=st→(∀ i,LA B L i→s0≤i)→Q (.ref L.w) H') :
    evE (orc (d+4)) (.dct [((.c (.str [115,116,111,114,101])),(.l 2)),((.c (.str [116,114,101,101])),(.me (.l 2) .write_tree [(.new .Tree [(.lst [])])])),((.c (.str [105,100,115])),(.lst [])),((.c (.str [114,111,119,115])),(.lst [])),((.c (.str [116,105,109,101,115])),(.lst []))])
      [l0,l1,some (.inst .MemoryStore st),l3,l4,l5,l6,l7,l8,l9,l10,l11,l12,l13] H Q:=by
  left
  refine new_k (lim_of rfl) fun H1 k1 e1 _=>?_
  left
  refine tree_init_ok (d:=d+3) get_new rfl fun H2 k2 e2=>?_
  have k2:=new_kp k2
  have k02:=k1.then k2
  left
  refine write_tree_ok (d:=d) (k02.at0 h0) (k02.at0 h1) (k02.at0 h2) (k02.at0 h3) hne e2 (k2.at0 e1) fun H3 k3 e3 e4=>?_
  have k03:Kp [hk,kp] H H3:=k02.nil.then k3
  left
  refine new_k (lim_of rfl) fun H4 k4 e5 l4=>?_
  left
  refine new_k (lim_of rfl) fun H5 k5 e6 l5=>?_
  left
  refine new_k (lim_of rfl) fun H6 k6 e7 l6=>?_
  left
  refine dct_k (kvs:=wkv ⟨H6.length,H3.length,H4.length,H5.length,st,hs,hk,kp,[],[],[]⟩) rfl fun H7 k7 e8 l7=>?_
  have k57:=k6.then k7
  have k47:=k5.then k57
  have k37:=k4.then k47
  have t3:s0≤H3.length:=Nat.le_trans z4 k03.len
  have t4:=Nat.le_trans t3 k4.len
  have t5:=Nat.le_trans t4 k5.len
  have t6:=Nat.le_trans t5 k6.len
  have d3:∀ {i:Nat}{o:AObj},H[i]?=some o→(∀ f,o≠.dict f)→H7[i]?=some o:=fun h n=>k37.at0 (k03.at2 h (ne_of h h2 (n _)) (ne_of h h3 (n _)))
  have g3:∀ {i:Nat}{o:AObj},H3[i]?=some o→H7[i]?=some o:=k37.at0
  have lt3:=lt_of e3
  have lt4:=lt_of e4
  have lst:=Nat.lt_of_lt_of_le (lt_of h0) k03.len
  have w6:∀ {j:Nat},j < H3.length→H6.length≠j:=fun h=>Nat.ne_of_gt (Nat.lt_of_lt_of_le h (Nat.le_trans k4.len (Nat.le_trans k5.len k6.len)))
  have out:∀ {j:Nat},H3.length≤j→¬ (j=st∨j=kp):=fun h p=>p.elim (fun z=>lt_no h (z▸lst)) fun z=>lt_no h (z▸lt4)
  refine hq H7 (fun i=>i=st∨i=kp) ⟨H6.length,H3.length,H4.length,H5.length,st,hs,hk,kp,[],[],[]⟩ (k03.then k37.nil) ?_ rfl rfl rfl rfl fun i a=>?_
  · exact {
      w:=e8
      ids:=k47.at0 e5
      rows:=⟨k57.at0 e6,rfl,nofun⟩
      times:=k7.at0 e7
      tl:=rfl
      st:=d3 h0 nofun
      hs:=d3 h1 nofun
      known:=⟨_,g3 e3,rfl,fC ⟨⟨_,_,_,rfl,show (48:UInt8).toNat < 65+0 by decide⟩,nofun⟩⟩
      kept:=⟨_,g3 e4,rfl,fC ⟨⟨1,show 1 < 0+2 by decide,rfl⟩,nofun⟩,fun k hk=>absurd hk (Nat.not_lt_zero _)⟩
      bst:=.inl rfl
      bkp:=.inr rfl
      bb:=fun i b=>b.elim (fun z=>z▸Nat.lt_of_lt_of_le lst k37.len) fun z=>z▸Nat.lt_of_lt_of_le lt4 k37.len
      nI:=out (Nat.le_refl _)
      nR:=out k4.len
      nT:=out (Nat.le_trans k4.len k5.len)
      rI:=nofun
      dIR:=ne_old e5
      dIT:=Nat.ne_of_lt (Nat.lt_of_lt_of_le (lt_of e5) k5.len)
      dRT:=ne_old e6
      dk:=hne
      dw:=⟨w6 lt3,w6 lt4⟩
      n:=Nat.zero_le _ }
  · rcases a with a | a | a
    · exact a.elim (fun z=>z▸z0) fun z=>z▸z3
    · exact (fC ⟨t6,fC ⟨t3,fC ⟨t4,all5 t5 z0 z1 z2 z3⟩⟩⟩) i a
    · exact nomatch a
noncomputable def lsOf (L:Ls) (refs:List Nat) (g:Gr) (ts:List Nat):Ls:={ L with refs:=refs,g:=g,ts:=ts }
theorem commits_ok {Rl Tl bf n D C s0:Nat}{refs ts:List Nat}{g:Gr}{L:Ls}{l0 l1 l2 l4 l7 l8 l9 l10 l11 l12 l13:Option V}{N:Loc→AH→Prop}{R:V→AH→Prop}
    (wf:wfB g=true) (hn:g.length≤5) (hrl:refs.length=g.length) (htl:ts.length=g.length) (htm:∀ t∈ts,t≤1010) (hD:D < s0) (hC:C < s0) (h0:0 < s0) (hs:∀ i∈[L.I,L.R,L.T,L.hk,L.kp],s0≤i) (hr:∀ r∈refs,L.I < r∧L.R < r∧L.T < r) (hRl:L.I < Rl∧L.R < Rl∧L.T < Rl) (hTl:L.I < Tl∧L.R < Tl∧L.T < Tl)
    (hN:∀ H' B' c5 c6,LI H' B' (lsOf L refs g ts)→RowsAt H' Rl refs g→DeckI H' D C n→(∃ b,H'[0]?=some (.tab b))→(∀ i,B' i→s0≤i)→N [l0,l1,l2,some (.ref L.w),l4,c5,c6,l7,l8,l9,l10,l11,l12,l13] H') :
    ∀ (j fuel p:Nat) (B:Nat→Prop) c5 c6 H,p+j=g.length→j < fuel→notCelO c5=true→notCelO c6=true→LI H B (lsOf L (refs.take p) (g.take p) (ts.take p))→RowsAt H Rl refs g→H[Tl]?=some (.list (ts.map nv))→H[bf]?=some .buf→DeckI H D C n→(∃ b,H[0]?=some (.tab b))→(∀ i,B i→s0≤i)→s0≤H.length →
    forTurns (.zip Rl Tl bf) (asg (orc (d+6)) (.tup [.v 5,.v 6])) (evSs (orc (d+6)) [.ex (.fn .committed [.l 3,.l 5,.l 6])]) fuel p [l0,l1,l2,some (.ref L.w),l4,c5,c6,l7,l8,l9,l10,l11,l12,l13] H N R:=by
  have hlen:(refs.map V.ref).length=(ts.map nv).length:=by rw [List.length_map,List.length_map,hrl,htl]
  intro j
  induction j with
  | zero =>
    intro fuel p B c5 c6 H hp hf n5 n6 X ra ht hb dk tab hB hs0
    cases fuel with
    | zero=>exact absurd hf (Nat.lt_irrefl _)
    | succ fuel =>
    have hp:p=g.length:=hp
    subst hp
    rw [List.take_length,List.take_of_length_le (Nat.le_of_eq hrl),List.take_of_length_le (Nat.le_of_eq htl)] at X
    refine for_s (lst_of ra.l (lst_of ht ⟨hb,hlen,optB_no ?_ (hN H B c5 c6 X ra dk tab hB)⟩))
    rw [List.getElem?_eq_none (by rw [List.length_map,hrl];exact Nat.le_refl _)];rfl
  | succ j ih =>
    intro fuel p B c5 c6 H hp hf n5 n6 X ra ht hb dk tab hB hs0
    cases fuel with
    | zero=>exact absurd hf (Nat.not_lt_zero _)
    | succ fuel =>
    have hp':p+1+j=g.length:=(Nat.add_assoc ..).trans ((congrArg (p+·) (Nat.add_comm ..)).trans hp)
    have hpg:p < g.length:=hp▸Nat.lt_add_of_pos_right (Nat.succ_pos _)
    obtain ⟨rr,hrp⟩:∃ x,refs[p]?=some x:=⟨_,List.getElem?_eq_getElem (hrl.symm▸hpg)⟩
    obtain ⟨m,htp⟩:∃ x,ts[p]?=some x:=⟨_,List.getElem?_eq_getElem (htl.symm▸hpg)⟩
    have hgp:g[p]?=some (par g p):=by unfold par;rw [List.getD,List.getElem?_eq_getElem hpg];rfl
    obtain ⟨z1,z2,z3⟩:=hr _ (List.mem_of_getElem? hrp)
    obtain ⟨wf1,wf2⟩:=wf_of wf hpg
    have hgl:(g.take p).length=p:=List.length_take_of_le (Nat.le_of_lt hpg)
    refine for_s (lst_of ra.l (lst_of ht ⟨hb,hlen,optB_of (x:=.tup [.ref rr,nv m]) (by rw [map_some hrp,map_some htp];rfl) ?_⟩))
    left
    refine committed_ok (d:=d) (L:=lsOf L (refs.take p) (g.take p) (ts.take p)) X (ra.row p _ hrp) (fun j mj=>hgl.symm▸wf1 j mj) wf2 (htm _ (List.mem_of_getElem? htp)) (Nat.le_trans (Nat.le_of_eq hgl) (Nat.le_trans (Nat.le_of_lt hpg) hn)) ⟨Nat.ne_of_gt z1,Nat.ne_of_gt z2,Nat.ne_of_gt z3⟩ fun H2 B2 k2 X2 new2=>?_
    have k2:Kp [L.I,L.R,L.T,L.hk,L.kp] H H2:=k2
    have et:(lsOf L (refs.take p) (g.take p) (ts.take p)).push rr (par g p) m=lsOf L (refs.take (p+1)) (g.take (p+1)) (ts.take (p+1)):=by
      unfold Ls.push lsOf
      rw [take_succ' hrp,take_succ' htp,take_succ' hgp]
    rw [et] at X2
    obtain ⟨kn,k1,_⟩:=X.known
    obtain ⟨ks,k3,_⟩:=X.kept
    have nS:∀ {i:Nat}{o:AObj},H[i]?=some o→(∀ f,o≠.dict f)→i≠L.I→i≠L.R→i≠L.T→i∉[L.I,L.R,L.T,L.hk,L.kp]:=fun h n n1 n2 n3 m=>all5 (p:=(_≠·)) n1 n2 n3 (ne_of h k1 (n _)) (ne_of h k3 (n _)) _ m rfl
    have big:∀ {i:Nat},L.I < i∧L.R < i∧L.T < i→i≠L.I∧i≠L.R∧i≠L.T:=fun h=>⟨Nat.ne_of_gt h.1,Nat.ne_of_gt h.2.1,Nat.ne_of_gt h.2.2⟩
    have out:∀ {i:Nat},i < s0→i∉[L.I,L.R,L.T,L.hk,L.kp]:=fun h m=>lt_no (hs _ m) h
    have b1:=big hRl
    have b2:=big hTl
    left
    refine ih fuel (p+1) B2 _ _ H2 hp' (Nat.lt_of_succ_lt_succ hf) rfl rfl X2 (ra.keep k2 (nS ra.l nofun b1.1 b1.2.1 b1.2.2) fun r mr=>(List.mem_iff_getElem?.mp mr).elim fun k hk=>have b3:=big (hr r mr);nS (ra.row k r hk) nofun b3.1 b3.2.1 b3.2.2) (k2.at ht (nS ht nofun b2.1 b2.2.1 b2.2.2)) (k2.at hb (nS hb nofun (ne_of hb X.ids nofun) (ne_of hb X.rows.l nofun) (ne_of hb X.times nofun)))
      (dk.keep k2 (out hD) (out hC)) (tab.imp fun _ t=>k2.at t (out h0)) (fun i b=>(new2 i b).elim (hB i) (Nat.le_trans hs0)) (Nat.le_trans hs0 k2.len)
end
section
variable {H:AH}{A B P:Nat→Prop}{L:Ls}{W:Wk}{d n D C Rl s0:Nat}{refs:List Nat}{l0 l1 l2 l4 l5 l6 l7 l8 l9 l10 l11 l12 l13:Option V}{N:Loc→AH→Prop}{R:V→AH→Prop}
theorem LI.la_lt (X:LI H B L):∀ i,LA B L i→i < H.length:=fun i a=>by
  obtain ⟨kn,k1,_⟩:=X.known
  obtain ⟨ks,k2,_⟩:=X.kept
  rcases a with a | a | a
  · exact X.bb i a
  · exact (show ∀ i∈[L.w,L.I,L.R,L.T,L.st,L.hs,L.hk,L.kp],i < H.length from fC ⟨lt_of X.w,fC ⟨lt_of X.ids,fC ⟨lt_of X.rows.l,all5 (p:=(· < H.length)) (lt_of X.times) (lt_of X.st) (lt_of X.hs) (lt_of k1) (lt_of k2)⟩⟩⟩) i a
  · exact X.rows.lt i a
theorem walk_reached {loc:Loc}{e1 e2:E}{S:List V→AH→Prop} (b:Bs H A B L D C n) (wf:wfB L.g=true) (ra:RowsAt H Rl refs L.g) (aR:A Rl) (aS:∀ r∈refs,A r)
    (h1:∀ H' (R:V→AH→Prop),Fz A H H'→R (.inst .MemoryStore L.st) H'→evE (orc (d+11)) e1 loc H' R) (h2:∀ H' (R:V→AH→Prop),Fz A H H'→R (.ref Rl) H'→evE (orc (d+11)) e2 loc H' R)
    (hS:∀ H' P W Rf frefs A',Ck H' A' P W D C n→Bs H' A' B L D C n→Env H' A' L Rf frefs (reached L.g)→(∀ i,A i→A' i)→Fz A H H'→W.g0=L.g→W.g=L.g→W.t=tOf L.ts→S [.inst .Walk W.w,.ref Rf] H') :
    evEs (orc (d+11)) [.new .Walk [e1],.fn .reached [e2,.lst []]] loc H S:=by
  refine es_c (e_new (es_c ?_))
  refine h1 H _ .refl ?_
  left
  refine new_walk_ok (d:=d+10) b.li wf (bd:=[]) nofun (Nat.zero_le _) (.inl ⟨rfl,rfl⟩) fun H1 P W k1 X1 w1 w2 w3 w4 new1 hk1 hl1=>?_
  rw [cut_nil] at w3
  obtain ⟨ck1,f1⟩:=b.walk k1 X1 new1 hk1 hl1
  refine ⟨rfl,es_c (e_fn (es_c ?_))⟩
  refine h2 H1 _ f1 ?_
  left
  refine new_k (lim_of rfl) fun H2 k2 e2 _=>?_
  obtain ⟨ck2,f2⟩:=ck1.nil k2
  have f02:=f1.trans f2
  have ra2:RowsAt H2 Rl refs L.g:=⟨f02.at ra.l aR,ra.len,fun k r e=>f02.at (ra.row k r e) (aS r (List.mem_of_getElem? e))⟩
  left
  refine reached_ok (d:=d+10) (bd:=[]) ra2 wf b.li.n e2 fun H3 Rf frefs k3 rr hrl hel lRf lfr=>?_
  rw [cut_nil] at rr hrl hel
  obtain ⟨ck3,f3⟩:=ck2.nil k3
  have f03:=f02.trans f3
  have b3:=b.step ck3 f03 fun i a=>a
  have hs:∀ i,(i=Rf∨i∈frefs)→H2.length≤i∧i < H3.length:=fun i s=>s.elim (fun z=>by rw [z];exact ⟨lRf,lt_of rr.l⟩) fun s=>⟨lfr i s,rr.lt i s⟩
  rw [← w1]
  left
  exact hS H3 P W Rf frefs _ (ck3.addS ck2 hs) (b3.add (b.step ck2 f02 fun i a=>a) hs) ⟨b3.li.w,b3.li.ids,rr,.inl (b3.sub _ (.inr (.inl (.head _)))),.inl (b3.sub _ (.inr (.inl (.tail _ (.head _))))),.inr (.inl rfl),fun r m=>.inr (.inr m),b.li.n,hrl,hel⟩ (fun i a=>.inl a) f03 w2 w3 w4
noncomputable abbrev plB:List S:=[.ite (.or (.cmp .ne (.listOf (.me (.l 8) .parents [(.sub (.sub (.l 3) (.c (.str [105,100,115]))) (.l 10))])) (.comp (.sub (.sub (.l 4) (.c (.str [105,100,115]))) (.l 0)) 1 (.ex (.sub (.l 4) (.l 10))) none)) (.cmp .ne (.me (.l 8) .date [(.sub (.sub (.l 3) (.c (.str [105,100,115]))) (.l 10))]) (.sub (.sub (.l 3) (.c (.str [116,105,109,101,115]))) (.l 10)))) [.ret (.c (.bool false))] []]
theorem parents_loop (b:Bs H A B L D C n) (wf:wfB L.g=true) (ra:RowsAt H Rl refs L.g) (aR:A Rl) (aS:∀ r∈refs,A r) (w2:W.g0=L.g) (w3:W.g=L.g) (w4:W.t=tOf L.ts)
    (hN:∀ H' P' c,notCelO c=true→Ck H' A P' W D C n→Fz A H H'→N [l0,l1,l2,some (.ref L.w),some (.ref Rl),l5,l6,some (nv L.g.length),some (.inst .Walk W.w),l9,c,l11,l12,l13] H') :
    ∀ (j fuel p:Nat) P c H',p+j=L.g.length→j < fuel→notCelO c=true→Ck H' A P W D C n→Fz A H H' →
    forTurns (.vals ((List.range L.g.length).map nv)) (asg (orc (d+5)) (.v 10)) (evSs (orc (d+5)) plB) fuel p [l0,l1,l2,some (.ref L.w),some (.ref Rl),l5,l6,some (nv L.g.length),some (.inst .Walk W.w),l9,c,l11,l12,l13] H' N R:=by
  have hn6:L.g.length≤1000:=Nat.le_trans b.li.n (by decide)
  intro j
  induction j with
  | zero =>
    intro fuel p P c H' hp hf nc ck f
    cases fuel with
    | zero=>exact absurd hf (Nat.lt_irrefl _)
    | succ fuel=>exact for_s (optB_no (rng_none (Nat.not_lt.mpr (Nat.le_of_eq hp.symm))) (hN H' P c nc ck f))
  | succ j ih =>
    intro fuel p P c H' hp hf nc ck f
    cases fuel with
    | zero=>exact absurd hf (Nat.not_lt_zero _)
    | succ fuel =>
    have hp':p+1+j=L.g.length:=(Nat.add_assoc ..).trans ((congrArg (p+·) (Nat.add_comm ..)).trans hp)
    have hpg:p < L.g.length:=hp▸Nat.lt_add_of_pos_right (Nat.succ_pos _)
    have hW:p < W.g0.length:=w2▸hpg
    obtain ⟨wf1,wf2⟩:=wf_of wf hpg
    have b':=b.step ck f fun i a=>a
    have w':=b'.li.w
    have fl:=ck.wi.fl
    refine for_s (optB_of (rng_some hpg) ?_)
    left
    refine sub_ids b'.li.ids hpg hn6 ?_
    left
    refine k_parents (d:=d) ck hW fun H1 P1 i1 ck1 f1 b1 _=>?_
    rw [w3] at b1
    have hlp:(par L.g p).length≤20:=Nat.le_trans wf2 (by decide)
    refine list_k b1 (ids_lim (Nat.le_trans hlp (by decide))) fun H2 k2 e2 _=>?_
    obtain ⟨ck2,f2⟩:=ck1.nil k2
    have f02:=f.trans (f1.trans f2)
    have b2:=b.step ck2 f02 fun i a=>a
    have w2':=b2.li.w
    have ra2:RowsAt H2 Rl refs L.g:=⟨f02.at ra.l aR,ra.len,fun k r e=>f02.at (ra.row k r e) (aS r (List.mem_of_getElem? e))⟩
    left
    refine sub_rows ra2 hpg hn6 fun r1 _ r2=>?_
    left
    refine ids_map b2.li r2 hlp (fun x m=>Nat.lt_trans (wf1 x m) hpg) (fun k R r=>by show evE _ _ _ _ _;(left);exact r) fun H3 k3 e3 _=>?_
    refine ne_same (k3.at0 e2) e3 (iteB_f rfl ?_)
    obtain ⟨ck3,f3⟩:=ck2.nil k3
    have f03:=f02.trans f3
    have b3:=b.step ck3 f03 fun i a=>a
    have w3':=b3.li.w
    have fl3:=ck3.wi.fl
    left
    refine sub_ids b3.li.ids hpg hn6 ?_
    left
    refine k_date (d:=d) ck3 hW fun H4 P4 ck4 f4=>?_
    have f04:=f03.trans f4
    have b4:=b.step ck4 f04 fun i a=>a
    have w4':=b4.li.w
    have hpt:p < L.ts.length:=b4.li.tl.symm▸hpg
    left
    refine sub_list b4.li.times (ints_lim (b4.li.tl.symm▸hn6)) (map_some (List.getElem?_eq_getElem hpt)) rfl ?_
    left
    refine iteB_f ?_ ?_
    · rw [w4,show tOf L.ts p=((L.ts[p]:Nat):Int) by unfold tOf;rw [List.getD,List.getElem?_eq_getElem hpt];rfl,BEq.refl];rfl
    left
    exact ih fuel (p+1) P4 _ H4 hp' (Nat.lt_of_succ_lt_succ hf) rfl ck4 f04
noncomputable def Good (g:Gr):Prop:=(∀ a b,a < g.length→b < g.length→pairChk g (reached g) a b=true)∧(∀ lot:List Nat,lot.length≤3→(∀ x∈lot,x < g.length)→lotChk g (reached g) lot=true) ∧
  (∀ bd:List Nat,bd≠[]→bd.length≤2→(∀ x∈bd,x < g.length)→∀ x,x < g.length→pairChk (cut g bd) (reached (cut g bd)) (g.length - 1) x=true) ∧
  (∀ x,x < g.length→pairChk (g++[[g.length - 1,g.length - 2]]) (reached (g++[[g.length - 1,g.length - 2]])) g.length x=true)∧mergeBases (g++[[g.length - 1,g.length - 2]]) g.length (g.length - 2)=[g.length - 2]
noncomputable def QL (v:V) (H':AH):Prop:=v = .bool true∧∃ b,H'[0]?=some (.tab b)
noncomputable abbrev lw12:List Mine.S:=[.ex (.fn .committed [(.l 3),(.lst [(.bin .sub (.l 7) (.c (.int 1))),(.bin .sub (.l 7) (.c (.int 2)))]),(.c (.int 1003))]),
      .asg (.tup [(.v 8),(.v 9)]) (.tup [(.new .Walk [(.l 2)]),(.fn .reached [(.sub (.l 3) (.c (.str [114,111,119,115]))),(.lst [])])]),
      .ite (.cmp .ne (.listOf (.me (.l 8) .merge_bases [(.sub (.sub (.l 3) (.c (.str [105,100,115]))) (.l 7)),(.sub (.sub (.l 3) (.c (.str [105,100,115]))) (.bin .sub (.l 7) (.c (.int 2))))])) (.lst [(.sub (.sub (.l 3) (.c (.str [105,100,115]))) (.bin .sub (.l 7) (.c (.int 2))))])) [.ret (.c (.bool false))] [],
      .ret (.fn .pair_right [(.l 3),(.l 8),(.l 9),(.l 7),(.fn .draw [(.l 1),(.l 7)])])]
set_option maxHeartbeats 4000000 in
theorem law_last (b:Bs H A B L D C n) (wf:wfB L.g=true) (h2:2≤L.g.length) (h5:L.g.length≤5) (hnn:n < 8000)
    (hs:∀ i,LA B L i→s0≤i) (hD:D < s0) (hC:C < s0) (h0:0 < s0) (n8:notCelO l8=true) (n9:notCelO l9=true) (good:Good L.g) :
    evSs (orc (d+11)) lw12 [l0,some (.ref D),some (.inst .MemoryStore L.st),some (.ref L.w),l4,l5,l6,some (nv L.g.length),l8,l9,l10,l11,l12,l13] H (fun _ H'=>QL .none H') QL fun _ _=>False:=by
  obtain ⟨_,_,_,good4,good5⟩:=good
  have h1:1≤L.g.length:=Nat.le_of_succ_le h2
  have e1:((L.g.length:Nat):Int) - 1=((L.g.length - 1:Nat):Int):=(Int.natCast_sub h1).symm
  have e2:((L.g.length:Nat):Int) - 2=((L.g.length - 2:Nat):Int):=(Int.natCast_sub h2).symm
  left
  refine new_k (vs:=[.int ((L.g.length:Int) - 1),.int ((L.g.length:Int) - 2)]) (lim_of rfl) fun H1 k1 q1 _=>?_
  rw [e1,e2] at q1
  have q1:H1[H.length]?=some (.list ([L.g.length - 1,L.g.length - 2].map nv)):=q1
  obtain ⟨b1,f1⟩:=b.nil k1
  have hrow:∀ j∈[L.g.length - 1,L.g.length - 2],j < L.g.length:=all2 (Nat.sub_lt h1 (by decide)) (Nat.sub_lt h1 (by decide))
  revert good4 good5 q1 hrow
  generalize hrw:[L.g.length - 1,L.g.length - 2]=row
  intro good4 good5 q1 hrow
  have hrl:row.length≤3:=hrw▸(by decide:2≤3)
  have la:=fun i m=>hs i (.inr (.inl m))
  have sI:=la _ (.tail _ (.head _))
  have sR:=la _ (.tail _ (.tail _ (.head _)))
  have sT:=la _ (.tail _ (.tail _ (.tail _ (.head _))))
  have sk:=la _ (.tail _ (.tail _ (.tail _ (.tail _ (.tail _ (.tail _ (.head _)))))))
  have sp:=la _ (.tail _ (.tail _ (.tail _ (.tail _ (.tail _ (.tail _ (.tail _ (.head _))))))))
  left
  refine committed_ok (d:=d+5) (m:=1003) b1.li q1 hrow hrl (by decide) h5 ⟨(ne_old b.li.ids).symm,(ne_old b.li.rows.l).symm,(ne_old b.li.times).symm⟩ fun H2 B2 k2 X2 new2=>?_
  have hH:s0≤H.length:=Nat.le_trans sI (Nat.le_of_lt (lt_of b.li.ids))
  have hs2:∀ i,LA B2 (L.push H.length row 1003) i→s0≤i:=fun i a=>by
    rcases a with a | a | a
    · exact (new2 i a).elim (fun q=>hs i (.inl q)) fun q=>Nat.le_trans hH (Nat.le_trans k1.len q)
    · exact hs i (.inr (.inl a))
    · exact (mA a).elim (fun a=>hs i (.inr (.inr a))) fun a=>mS a▸hH
  have out:∀ {i:Nat},i < s0→i∉[L.I,L.R,L.T,L.hk,L.kp]:=fun h m=>lt_no (all5 (p:=(s0≤·)) sI sR sT sk sp _ m) h
  have na:∀ {i:Nat},i < s0→¬ LA B2 (L.push H.length row 1003) i:=fun h a=>lt_no (hs2 _ a) h
  have g2:(L.push H.length row 1003).g=L.g++[row]:=rfl
  have b2:Bs H2 (LA B2 (L.push H.length row 1003)) B2 (L.push H.length row 1003) D C n :=
    ⟨X2,b1.dk.keep k2 (out hD) (out hC),b1.tab.imp fun _ t=>k2.at t (out h0),fun i a=>a,na h0,na hD,na hC,X2.la_lt⟩
  rw [show L.w=(L.push H.length row 1003).w from rfl,show L.st=(L.push H.length row 1003).st from rfl]
  have wf2:wfB (L.push H.length row 1003).g=true:=wfB_push wf hrow hrl
  have gl2:(L.push H.length row 1003).g.length=L.g.length+1:=List.length_append
  rw [← g2] at good4 good5
  revert good4 good5 wf2 gl2 b2 X2
  generalize L.push H.length row 1003=L2
  intro good4 good5 X2 b2 wf2 gl2
  refine ⟨rfl,ss_c (s_asg (e_tup ?_))⟩
  refine walk_reached (d:=d) b2 wf2 X2.rows (.inr (.inl (.tail _ (.tail _ (.head _))))) (fun r m=>.inr (.inr m)) (fun H' R f r=>?_) (fun H' R f r=>?_) fun H3 P W Rf frefs A' ck3 b3 env3 sub3 f3 w2 w3 w4=>?_
  · left
    exact r
  · have w':=f.at X2.w (.inr (.inl (.head _)))
    left
    exact r
  have hN:L.g.length < L2.g.length:=gl2.symm▸Nat.lt_succ_self _
  have hN2:L.g.length - 2 < L2.g.length:=Nat.lt_of_le_of_lt (Nat.sub_le ..) hN
  have hn6:L2.g.length≤1000:=Nat.le_trans b3.li.n (by decide)
  have w3':=b3.li.w
  have fl3:=ck3.wi.fl
  left
  refine sub_ids b3.li.ids hN hn6 ?_
  left
  rw [e2]
  refine sub_ids b3.li.ids hN2 hn6 ?_
  left
  refine k_merge (d:=d+3) ck3 (w2▸hN) (w2▸hN2) fun H4 P4 i4 ck4 f4 k4 _=>?_
  rw [w3,good5] at k4
  refine list_k k4 (lim_of rfl) fun H5 k5 e5 _=>?_
  obtain ⟨ck5,f5⟩:=ck4.nil k5
  have f35:=f4.trans f5
  have b5:=b3.step ck5 f35 fun i a=>a
  have w5':=b5.li.w
  left
  rw [e2]
  refine sub_ids b5.li.ids hN2 hn6 ?_
  left
  refine new_k (lim_of rfl) fun H6 k6 e6 _=>?_
  obtain ⟨ck6,f6⟩:=ck5.nil k6
  refine ne_same (l:=[L.g.length - 2]) (k6.at0 e5) e6 (iteB_f rfl ?_)
  left
  refine k_draw (d:=d+10) (m:=L.g.length) ck6 (Nat.lt_trans hnn (by decide)) h1 (Nat.lt_of_le_of_lt h5 (by decide)) fun H7 x ck7 f7 hx=>?_
  left
  refine pair_right_ok (d:=d+2) ck7 (env3.fz (f35.trans (f6.trans f7))) (by rw [w2]) hN (Nat.lt_trans hx hN) (by rw [w3];exact good4 x hx) fun H8 P8 ck8 f8=>?_
  exact ⟨rfl,ck8.tab⟩
noncomputable abbrev enc2 (p:Nat × Nat):V:=.tup [nv p.1,nv p.2]
noncomputable abbrev prB:List Mine.S:=[.ite (.not (.e (.fn .pair_right [(.l 3),(.l 8),(.l 9),(.l 12),(.l 13)]))) [.ret (.c (.bool false))] []]
theorem pairs_loop {rf pl:Nat}{rrefs:List Nat}{re:List (List Nat)}{ps:List (Nat × Nat)} (env:Env H A L rf rrefs re) (hp:H[pl]?=some (.list (ps.map enc2))) (ap:A pl)
    (hlt:∀ p∈ps,p.1 < L.g.length∧p.2 < L.g.length) (hN:W.g0.length=L.g.length) (hchk:∀ a b,a < L.g.length→b < L.g.length→pairChk W.g re a b=true)
    (hK:∀ H' P' c12 c13,Ck H' A P' W D C n→Fz A H H'→N [l0,l1,l2,some (.ref L.w),l4,l5,l6,l7,some (.inst .Walk W.w),some (.ref rf),l10,l11,c12,c13] H') :
    ∀ (l:List (Nat × Nat)) (fuel p:Nat) P c12 c13 H',ps.drop p=l→l.length < fuel→notCelO c12=true→notCelO c13=true→Ck H' A P W D C n→Fz A H H' →
    forTurns (.live pl) (asg (orc (d+9)) (.tup [.v 12,.v 13])) (evSs (orc (d+9)) prB) fuel p [l0,l1,l2,some (.ref L.w),l4,l5,l6,l7,some (.inst .Walk W.w),some (.ref rf),l10,l11,c12,c13] H' N R:=by
  intro l
  induction l with
  | nil =>
    intro fuel p P c12 c13 H' hd hf n12 n13 ck f
    cases fuel with
    | zero=>exact absurd hf (Nat.lt_irrefl _)
    | succ fuel=>exact for_s (lst_of (f.at hp ap) (optB_no (map_none (drop_nil hd)) (hK H' P _ _ ck f)))
  | cons x r ih =>
    intro fuel p P c12 c13 H' hd hf n12 n13 ck f
    cases fuel with
    | zero=>exact absurd hf (Nat.not_lt_zero _)
    | succ fuel =>
    obtain ⟨e,hd'⟩:=drop_head hd
    obtain ⟨x1,x2⟩:=hlt x (List.mem_of_getElem? e)
    refine for_s (lst_of (f.at hp ap) (optB_of (map_some e) ?_))
    left
    refine pair_right_ok (d:=d) ck (env.fz f) hN x1 x2 (hchk _ _ x1 x2) fun H2 P2 ck2 f2=>?_
    left
    refine iteB_f rfl ?_
    left
    exact ih fuel (p+1) P2 _ _ H2 hd' (Nat.lt_of_succ_lt_succ hf) rfl rfl ck2 (f.trans f2)
set_option maxHeartbeats 4000000 in
theorem law_mid (b:Bs H A B L D C n) (wf:wfB L.g=true) (h2:2≤L.g.length) (h5:L.g.length≤5) (hnn:n < 7000)
    (hs:∀ i,LA B L i→s0≤i) (hD:D < s0) (hC:C < s0) (h0:0 < s0) (ra:RowsAt H Rl refs L.g) (aR:A Rl) (aS:∀ r∈refs,A r) (good:Good L.g) {c5 c6:Option V} :
    evSs (orc (d+11)) (b_law.drop 5) [l0,some (.ref D),some (.inst .MemoryStore L.st),some (.ref L.w),some (.ref Rl),c5,c6,none,none,none,none,none,none,none] H (fun _ H'=>QL .none H') QL fun _ _=>False:=by
  obtain ⟨good1,good2,good3,_,_⟩:=id good
  have h1:1≤L.g.length:=Nat.le_of_succ_le h2
  have hn6:L.g.length≤1000:=Nat.le_trans h5 (by decide)
  have hnk:L.g.length < 1000:=Nat.lt_of_le_of_lt h5 (by decide)
  have e1:((L.g.length:Nat):Int) - 1=((L.g.length - 1:Nat):Int):=(Int.natCast_sub h1).symm
  have e2:((L.g.length:Nat):Int) - 2=((L.g.length - 2:Nat):Int):=(Int.natCast_sub h2).symm
  unfold b_law
  rw [List.drop_succ_cons,List.drop_succ_cons,List.drop_succ_cons,List.drop_succ_cons,List.drop_succ_cons,List.drop_zero]
  refine ss_c (s_asg (e_tup (es_c (e_len (e_l rfl rfl ?_)))))
  refine len_list ra.l (Nat.le_trans (Nat.le_of_eq ((List.length_map ..).trans ra.len)) (Nat.le_trans hn6 (by decide))) ?_
  rw [List.length_map,ra.len]
  refine walk_reached (d:=d) b wf ra aR aS (fun H' R f r=>?_) (fun H' R f r=>?_) fun H1 P W Rf frefs A1 ck1 b1 env1 sub1 f1 w2 w3 w4=>?_
  · left
    exact r
  · left
    exact r
  left
  refine ⟨rng_of hn6,?_⟩
  have ra1:RowsAt H1 Rl refs L.g:=⟨f1.at ra.l aR,ra.len,fun k r e=>f1.at (ra.row k r e) (aS r (List.mem_of_getElem? e))⟩
  refine parents_loop (d:=d+6) b1 wf ra1 (sub1 _ aR) (fun r m=>sub1 _ (aS r m)) w2 w3 w4 (fun H2 P2 c10 n10 ck2 f2=>?_) L.g.length _ 0 P none H1 (Nat.zero_add _) (Nat.lt_trans hnk (by decide)) rfl ck1 .refl
  left
  rw [e1,e2]
  refine k_draw (d:=d+10) (m:=L.g.length) ck2 (Nat.lt_trans hnn (by decide)) h1 hnk fun H3 x ck3 f3 hx=>?_
  left
  refine k_draw (d:=d+10) (m:=L.g.length) ck3 (Nat.lt_of_lt_of_le (Nat.succ_lt_succ hnn) (by decide)) h1 hnk fun H4 y ck4 f4 hy=>?_
  left
  refine new_k (vs:=[(L.g.length - 1,L.g.length - 2),(x,y)].map enc2) (lim_of rfl) fun H5 k5 q5 _=>?_
  have hps:∀ p∈[(L.g.length - 1,L.g.length - 2),(x,y)],p.1 < L.g.length∧p.2 < L.g.length:=list_two (A:=fun p=>p.1 < L.g.length∧p.2 < L.g.length) ⟨Nat.sub_lt h1 (by decide),Nat.sub_lt h1 (by decide)⟩ ⟨hx,hy⟩
  have hpl:[(L.g.length - 1,L.g.length - 2),(x,y)].length < 2000:=show 2 < 2000 by decide
  revert q5 hps hpl
  generalize [(L.g.length - 1,L.g.length - 2),(x,y)]=ps
  intro q5 hps hpl
  obtain ⟨ck5,f5⟩:=ck4.nil k5
  have ck5:=ck5.addS ck4 (S:=fun i=>i=H4.length) fun i q=>by rw [q];exact ⟨Nat.le_refl _,lt_of q5⟩
  have f15:=f2.trans (f3.trans (f4.trans f5))
  have env5:=(env1.fz f15).more (A':=Au A1 fun i=>i=H4.length) fun i a=>.inl a
  left
  refine pairs_loop (d:=d+2) env5 q5 (.inr rfl) hps (by rw [w2]) (fun a b ha hb=>by rw [w3];exact good1 a b ha hb) (fun H6 P6 c12 c13 ck6 f6=>?_) ps _ 0 _ none none H5 rfl hpl rfl rfl ck5 .refl
  have ck6:=ck6.weak (A':=A1) fun i a=>.inl a
  have f16:=f15.trans (f6.mono fun i a=>.inl a)
  left
  refine lot_right_ok (d:=d+2) ck6 (env1.fz f16) (by rw [w2]) h1 (Nat.lt_of_lt_of_le (Nat.succ_lt_succ (Nat.succ_lt_succ hnn)) (by decide)) (fun lot hl hm=>by rw [w3];exact good2 lot hl hm) fun H7 P7 ck7 f7=>?_
  have b7:=b.step ck7 (f1.trans ((f16.trans f7).mono sub1)) sub1
  left
  refine iteB_f rfl ?_
  left
  refine b_draw_ok (d:=d+10) (m:=2) b7 (Nat.lt_of_lt_of_le (Nat.add_lt_add_right hnn 6) (by decide)) (by decide) (by decide) fun H8 r b8 f8 hr=>?_
  left
  cases hr0:((r:Int) == 0) with
  | false =>
    refine iteB_f rfl (iteB_f rfl (ss_n ?_))
    exact law_last (d:=d) b8 wf h2 h5 (Nat.lt_of_lt_of_le (Nat.add_lt_add_right hnn 7) (by decide)) hs hD hC h0 rfl rfl good
  | true =>
    refine iteB_t rfl ?_
    left
    refine border_right_ok (d:=d+1) b8 wf h1 (Nat.lt_of_lt_of_le (Nat.add_lt_add_right hnn 7) (by decide)) good3 fun H9 b9 f9=>?_
    left
    refine iteB_f rfl (ss_n ?_)
    exact law_last (d:=d) b9 wf h2 h5 (Nat.lt_of_lt_of_le (Nat.add_lt_add_right hnn 11) (by decide)) hs hD hC h0 rfl rfl good
set_option maxHeartbeats 4000000 in
theorem law_ok (good:∀ g,Fam g→Good g) (l:List Int) (hlim:l.length≤lim):callN (d+12) .law [.flist (l.map .int)] [.tab false] QL:=by
  refine call_of (loc:=[some (.flist (l.map .int)),none,none,none,none,none,none,none,none,none,none,none,none,none]) rfl rfl rfl rfl ?_
  left
  refine deck_ok (d:=d+10) hlim fun H1 D C k1 dk1 hD hC=>?_
  have tab1:H1[0]?=some (.tab false):=k1.at0 (o:=.tab false) rfl
  have l01:0 < H1.length:=lt_of tab1
  have ldk:=dk1.lt
  left
  refine hash_init_ok (d:=d+10) get_new fun H2 hk k2 e2 e3 z2=>?_
  have k2:=new_kp k2
  left
  refine store_init_ok (d:=d+10) get_new rfl fun H3 kp k3 e4 e5 z3=>?_
  have k3:=new_kp k3
  have k13:=k2.then k3
  have hkn:=k3.at0 e3
  have hl2:(H1++[AObj.flds .CountingHasher []]).length=H1.length+1:=List.length_append
  have hl3:(H2++[AObj.flds .MemoryStore []]).length=H2.length+1:=List.length_append
  rw [hl2] at z2
  have z2:=Nat.le_of_succ_le z2
  have z3':H2.length+1≤kp:=hl3▸z3
  have hlk:hk < kp:=Nat.lt_of_lt_of_le (lt_of e3) (Nat.le_of_succ_le z3')
  refine ⟨rfl,g_v rfl (ss_c (s_asg ?_))⟩
  refine start_w (d:=d+7) (s0:=H1.length) e4 (k3.at0 e2) hkn e5 (Nat.ne_of_lt hlk) k2.len (Nat.le_refl _) z2 (Nat.le_trans z2 (Nat.le_of_lt hlk)) k13.len fun H4 B4 L k4 X4 lg lr lt lst la4=>?_
  have out4:∀ {i:Nat},i < H1.length→i∉[hk,kp]:=fun h m=>lt_no (all2 (p:=(H1.length≤·)) z2 (Nat.le_trans z2 (Nat.le_of_lt hlk)) _ m) h
  have na4:∀ {i:Nat},i < H1.length→¬ LA B4 L i:=fun h a=>lt_no (la4 _ a) h
  have b4:Bs H4 (LA B4 L) B4 L D C 0:=⟨X4,(dk1.mem k13).keep k4 (out4 ldk.1) (out4 ldk.2),⟨_,k4.at (k13.at0 tab1) (out4 l01)⟩,fun i a=>a,na4 l01,na4 ldk.1,na4 ldk.2,X4.la_lt⟩
  have l14:H1.length≤H4.length:=Nat.le_trans k13.len k4.len
  left
  refine rows_ok (d:=d+7) b4.dk (by decide) fun H5 Rl refs g k5 dk5 ra5 fam hRl hrefs=>?_
  obtain ⟨b5,f5⟩:=b4.draw k5 dk5
  obtain ⟨glen1,glen2⟩:=fam.len
  have rl5:=ra5.l
  have hn6:g.length≤1000:=Nat.le_trans glen2 (by decide)
  left
  refine len_list rl5 (Nat.le_trans (Nat.le_of_eq ((List.length_map ..).trans ra5.len)) (Nat.le_trans hn6 (by decide))) ?_
  rw [List.length_map,ra5.len]
  left
  refine times_ok (d:=d+9) b5.dk (by decide) (Nat.le_trans glen2 (by decide)) fun H6 Tl ts k6 dk6 ht6 htl htm hTl=>?_
  obtain ⟨b6,f6⟩:=b5.draw k6 dk6
  have nDC:∀ {i:Nat},H4.length≤i→i∉[D,C]:=fun h m=>lt_no h (Nat.lt_of_lt_of_le (all2 (p:=(· < H1.length)) ldk.1 ldk.2 _ m) l14)
  have ra6:RowsAt H6 Rl refs g:=ra5.keep k6 (nDC hRl) fun r m=>nDC (hrefs r m).1
  have rl6:=ra6.l
  left
  have kb:Kp [] H6 (H6++[AObj.buf]):=.app
  have hb:(H6++[AObj.buf])[H6.length]?=some .buf:=get_new
  revert kb hb
  generalize H6++[AObj.buf]=H7
  intro kb hb
  obtain ⟨b7,f7⟩:=b6.nil kb
  have lI:=lt_of b4.li.ids
  have lR:=lt_of b4.li.rows.l
  have lT:=lt_of b4.li.times
  have eL:lsOf L [] [] []=L:=by
    cases L
    simp only at lg lr lt
    subst lg lr lt
    rfl
  have X7:LI H7 B4 (lsOf L [] [] []):=eL.symm▸b7.li
  have up:∀ {i:Nat},H4.length≤i→L.I < i∧L.R < i∧L.T < i:=fun h=>⟨Nat.lt_of_lt_of_le lI h,Nat.lt_of_lt_of_le lR h,Nat.lt_of_lt_of_le lT h⟩
  have la:=fun i m=>la4 i (.inr (.inl m))
  refine commits_ok (d:=d+5) (s0:=H1.length) (n:=0+18+10) (D:=D) (C:=C) (g:=g) fam.wfb glen2 ra6.len htl htm ldk.1 ldk.2 l01 (all5 (la _ (.tail _ (.head _))) (la _ (.tail _ (.tail _ (.head _)))) (la _ (.tail _ (.tail _ (.tail _ (.head _))))) (la _ (.tail _ (.tail _ (.tail _ (.tail _ (.tail _ (.tail _ (.head _)))))))) (la _ (.tail _ (.tail _ (.tail _ (.tail _ (.tail _ (.tail _ (.tail _ (.head _)))))))))) (fun r m=>up (hrefs r m).1) (up hRl) (up (Nat.le_trans k5.len hTl))
    (fun H8 B8 c5 c6 X8 ra8 dk8 tab8 hB8=>?_) g.length _ 0 B4 none none H7 (Nat.zero_add _) (Nat.lt_of_le_of_lt glen2 (by decide)) rfl rfl X7 (ra6.mem kb) (kb.at0 ht6) hb b7.dk b7.tab (fun i p=>la4 i (.inl p)) (Nat.le_trans l14 (Nat.le_trans k5.len (Nat.le_trans k6.len kb.len)))
  have la8:∀ i,LA B8 (lsOf L refs g ts) i→H1.length≤i:=fun i a=>a.elim (hB8 i) fun a=>a.elim (fun a=>la4 i (.inr (.inl a))) fun a=>Nat.le_trans l14 (hrefs i a).1
  have na:∀ {i:Nat},i < H1.length→¬ Au (LA B8 (lsOf L refs g ts)) (fun i=>i=Rl) i:=fun h a=>a.elim (fun a=>lt_no (la8 _ a) h) fun q=>lt_no (Nat.le_trans l14 hRl) (q▸h)
  have b8:Bs H8 (Au (LA B8 (lsOf L refs g ts)) fun i=>i=Rl) B8 (lsOf L refs g ts) D C 28 :=
    ⟨X8,dk8,tab8,fun i a=>.inl a,na l01,na ldk.1,na ldk.2,fun i a=>a.elim (X8.la_lt i) fun q=>q▸lt_of ra8.l⟩
  have m:=law_mid (d:=d) (l0:=some (.flist (l.map .int))) (c5:=c5) (c6:=c6) b8 fam.wfb glen1 glen2 (by decide) la8 ldk.1 ldk.2 l01 ra8 (.inr rfl) (fun r m=>.inl (.inr (.inr m))) (good g fam)
  rw [show (lsOf L refs g ts).st=H2.length from lst] at m
  exact m
end
noncomputable def rk (rows:List Qr) (i:Nat):Nat:=(rows.getD i q0).1
noncomputable def Hp (rows:List Qr):Prop:=∀ i,0 < i→i < rows.length→rk rows i≤rk rows ((i - 1) / 2)
theorem swap_get {rows:List Qr}{i j k:Nat} (hi:i < rows.length) (hj:j < rows.length):(swapQ rows i j).getD k q0=if k=j then rows.getD i q0 else if k=i then rows.getD j q0 else rows.getD k q0:=by
  unfold swapQ
  simp only [List.getD,List.getElem?_set,List.length_set]
  by_cases h1:k=j
  · subst h1;simp [hj]
  · by_cases h2:k=i
    · subst h2
      simp [h1,Ne.symm h1,hi]
    · simp [h1,h2,Ne.symm h1,Ne.symm h2]
theorem swap_rk {rows:List Qr}{i j k:Nat} (hi:i < rows.length) (hj:j < rows.length):rk (swapQ rows i j) k=if k=j then rk rows i else if k=i then rk rows j else rk rows k:=by
  unfold rk
  rw [swap_get hi hj]
  split
  · rfl
  · split<;>rfl
theorem swap_perm {rows:List Qr}{i j:Nat} (hi:i < rows.length) (hj:j < rows.length):(swapQ rows i j).Perm rows:=by
  have:=List.set_set_perm (as:=rows) hi hj
  unfold swapQ
  simpa [List.getD,hi,hj] using this
theorem qle_rk {a b:Qr} (h:qle a b=true):b.1≤a.1:=by
  unfold qle at h
  split at h
  · rename_i q
    have:a.1=b.1:=by simpa using q
    omega
  · have:b.1 < a.1:=by simpa [Nat.blt_eq] using h
    omega
theorem qle_no {a b:Qr} (h:qle a b=false):a.1≤b.1:=by
  unfold qle at h
  split at h
  · rename_i q
    have:a.1=b.1:=by simpa using q
    omega
  · have:¬ b.1 < a.1:=by
      intro z
      have:Nat.blt b.1 a.1=true:=by rw [Nat.blt_eq];exact z
      rw [h] at this;cases this
    omega
theorem qlt_rk {a b:Qr} (h:qlt a b=true):b.1≤a.1:=by
  unfold qlt at h
  split at h
  · rename_i q
    have:a.1=b.1:=by simpa using q
    omega
  · have:b.1 < a.1:=by simpa [Nat.blt_eq] using h
    omega
theorem qlt_no {a b:Qr} (h:qlt a b=false):a.1≤b.1:=by
  unfold qlt at h
  split at h
  · rename_i q
    have:a.1=b.1:=by simpa using q
    omega
  · have:¬ b.1 < a.1:=by
      intro z
      have:Nat.blt b.1 a.1=true:=by rw [Nat.blt_eq];exact z
      rw [h] at this;cases this
    omega
theorem sub_step {n x c d:Nat} (hc:c < n) (hx:x < c) (h:n - x≤d+1):n - c≤d:=Nat.le_of_lt_succ (Nat.lt_of_lt_of_le (Nat.sub_lt_sub_left (Nat.lt_trans hx hc) hx) h)
theorem sub_no {n x:Nat}{C:Prop} (h:n - x≤0) (hx:x < n):C:=absurd hx (Nat.not_lt.mpr (Nat.le_of_sub_eq_zero (Nat.le_zero.mp h)))
theorem hpar_lt {i:Nat} (h:0 < i):(i - 1) / 2 < i:=Nat.lt_of_le_of_lt (Nat.div_le_self _ _) (Nat.sub_lt h Nat.one_pos)
theorem hpar_kid {i:Nat} (h:0 < i):i=2 * ((i - 1) / 2)+1∨i=2 * ((i - 1) / 2)+2:=by
  cases i with
  | zero=>exact absurd h (Nat.lt_irrefl _)
  | succ j=>exact (Nat.mod_two_eq_zero_or_one j).imp (fun q=>congrArg (·+1) ((Nat.div_add_mod j 2).symm.trans (congrArg (2 * (j / 2)+·) q))) fun q=>congrArg (·+1) ((Nat.div_add_mod j 2).symm.trans (congrArg (2 * (j / 2)+·) q))
theorem hpar_no {i:Nat} (h:0 < i):¬ (i - 1) / 2=i:=fun q=>absurd (hpar_lt h) (q.symm▸Nat.lt_irrefl i)
theorem sift_hp (fuel:Nat):∀ (rows:List Qr) (a:Nat),a < rows.length→a < fuel→(∀ i,0 < i→i < rows.length→i≠a→rk rows i≤rk rows ((i - 1) / 2))→(∀ i,0 < i→i < rows.length→(i - 1) / 2=a→0 < a→rk rows i≤rk rows ((a - 1) / 2)) →
    Hp (siftUp fuel rows a)∧(siftUp fuel rows a).Perm rows:=by
  induction fuel with
  | zero=>exact fun rows a _ h=>absurd h (Nat.not_lt_zero _)
  | succ fuel ih =>
    intro rows a ha hf h1 h2
    cases a with
    | zero=>exact ⟨fun i h0 hi=>h1 i h0 hi (Nat.ne_of_gt h0),.refl _⟩
    | succ a =>
      have e:siftUp (fuel+1) rows (a+1)=if qle (rows.getD (a / 2) q0) (rows.getD (a+1) q0) then rows else siftUp fuel (swapQ rows (a / 2) (a+1)) (a / 2):=rfl
      have hlt:a / 2 < a+1:=hpar_lt (Nat.succ_pos a)
      have hb:a / 2 < rows.length:=Nat.lt_trans hlt ha
      rw [e]
      cases hq:qle (rows.getD (a / 2) q0) (rows.getD (a+1) q0) with
      | true =>
        refine ⟨fun i h0 hi=>?_,.refl _⟩
        by_cases hia:i=a+1
        · subst hia;exact qle_rk hq
        · exact h1 i h0 hi hia
      | false =>
        have z:=ih (swapQ rows (a / 2) (a+1)) (a / 2) (by rw [swapQ_len];exact hb) (Nat.lt_of_lt_of_le hlt (Nat.le_of_lt_succ hf)) (fun i h0 hi hib=>?_) (fun i h0 hi hpi hb0=>?_)
        · exact ⟨z.1,z.2.trans (swap_perm hb ha)⟩
        · rw [swapQ_len] at hi
          rw [swap_rk hb ha,swap_rk hb ha]
          by_cases hia:i=a+1
          · subst hia
            rw [show (a+1 - 1) / 2=a / 2 from rfl,if_pos rfl,if_neg (Nat.ne_of_lt hlt),if_pos rfl]
            exact qle_no hq
          · rw [if_neg hia,if_neg hib]
            by_cases hpa:(i - 1) / 2=a+1
            · rw [if_pos hpa]
              exact h2 i h0 hi hpa (Nat.succ_pos a)
            · rw [if_neg hpa]
              have hh:=h1 i h0 hi hia
              by_cases hpb:(i - 1) / 2=a / 2
              · rw [if_pos hpb]
                exact Nat.le_trans (hpb▸hh) (qle_no hq)
              · rw [if_neg hpb];exact hh
        · rw [swapQ_len] at hi
          rw [swap_rk hb ha,swap_rk hb ha]
          have q2:=hpar_lt hb0
          rw [if_neg (Nat.ne_of_lt (Nat.lt_trans q2 hlt)),if_neg (Nat.ne_of_lt q2)]
          have hpp:=h1 (a / 2) hb0 hb (Nat.ne_of_lt hlt)
          by_cases hia:i=a+1
          · rw [if_pos hia]
            exact hpp
          · rw [if_neg hia,if_neg fun q:i=a / 2=>hpar_no h0 (hpi.trans q.symm)]
            exact Nat.le_trans (hpi▸h1 i h0 hi hia) hpp
theorem put_hp {rows:List Qr}{x:Qr} (h:Hp rows) (hl:rows.length < 19):Hp (putQ rows x)∧(putQ rows x).Perm (rows++[x]):=by
  have hr:∀ i,i < rows.length→rk (rows++[x]) i=rk rows i:=fun i hi=>by
    unfold rk;simp only [List.getD];rw [List.getElem?_append_left hi]
  unfold putQ
  refine sift_hp 20 (rows++[x]) rows.length (List.length_append▸Nat.lt_succ_self _) (Nat.lt_of_lt_of_le hl (by decide)) (fun i h0 hi hia=>?_) (fun i h0 hi hp _=>?_)
  · rw [List.length_append] at hi
    have z:=Nat.lt_of_le_of_ne (Nat.le_of_lt_succ hi) hia
    rw [hr i z,hr _ (Nat.lt_trans (hpar_lt h0) z)]
    exact h i h0 z
  · rw [List.length_append] at hi
    exact absurd (hp▸hpar_lt h0) (Nat.not_lt.mpr (Nat.le_of_lt_succ hi))
theorem least1_cases {rows:List Qr}{l b:Nat}:(least1 rows l b=b∧b < rows.length∧rk rows l≤rk rows b)∨(least1 rows l b=l∧(b < rows.length→rk rows b≤rk rows l)):=by
  unfold least1
  by_cases hb:b < rows.length
  · have e:Nat.blt b rows.length=true:=by rw [Nat.blt_eq];exact hb
    rw [e,Bool.true_and]
    cases hq:qlt (rows.getD b q0) (rows.getD l q0) with
    | true=>exact .inl ⟨rfl,hb,qlt_rk hq⟩
    | false=>exact .inr ⟨rfl,fun _=>qlt_no hq⟩
  · have e:Nat.blt b rows.length=false:=by
      rw [Bool.eq_false_iff,ne_eq,Nat.blt_eq];exact hb
    rw [e,Bool.false_and]
    exact .inr ⟨rfl,fun z=>absurd z hb⟩
theorem sink_key {rows:List Qr}{a:Nat}:∃ l,least1 rows (least1 rows a (2 * a+1)) (2 * a+2)=l∧(l=a∨((l=2 * a+1∨l=2 * a+2)∧l < rows.length))∧rk rows a≤rk rows l∧(2 * a+1 < rows.length→rk rows (2 * a+1)≤rk rows l)∧(2 * a+2 < rows.length→rk rows (2 * a+2)≤rk rows l):=by
  refine ⟨_,rfl,?_⟩
  rcases @least1_cases rows a (2 * a+1) with ⟨m1,m2,m3⟩ | ⟨m1,m2⟩<;>rw [m1]
  · rcases @least1_cases rows (2 * a+1) (2 * a+2) with ⟨k1,k2,k3⟩ | ⟨k1,k2⟩<;>rw [k1]
    · exact ⟨.inr ⟨.inr rfl,k2⟩,Nat.le_trans m3 k3,fun _=>k3,fun _=>Nat.le_refl _⟩
    · exact ⟨.inr ⟨.inl rfl,m2⟩,m3,fun _=>Nat.le_refl _,k2⟩
  · rcases @least1_cases rows a (2 * a+2) with ⟨k1,k2,k3⟩ | ⟨k1,k2⟩<;>rw [k1]
    · exact ⟨.inr ⟨.inr rfl,k2⟩,k3,fun q=>Nat.le_trans (m2 q) k3,fun _=>Nat.le_refl _⟩
    · exact ⟨.inl rfl,Nat.le_refl _,m2,k2⟩
theorem sink_kid {a l:Nat} (h:l=2 * a+1∨l=2 * a+2):(l - 1) / 2=a∧0 < l∧a < l :=
  have z:a < 2 * a+1:=Nat.lt_succ_of_le (Nat.le_mul_of_pos_left a (Nat.succ_pos 1))
  h.elim (fun e=>e▸⟨Nat.mul_div_cancel_left a (Nat.succ_pos 1),Nat.succ_pos _,z⟩) fun e=>e▸⟨Nat.mul_add_div (Nat.succ_pos 1) a 1,Nat.succ_pos _,Nat.lt_succ_of_lt z⟩
theorem sink_hp (fuel:Nat):∀ (rows:List Qr) (a:Nat),a < rows.length→rows.length - a < fuel→(∀ i,0 < i→i < rows.length→(i - 1) / 2≠a→rk rows i≤rk rows ((i - 1) / 2))→(∀ i,0 < i→i < rows.length→(i - 1) / 2=a→0 < a→rk rows i≤rk rows ((a - 1) / 2)) →
    Hp (sinkQ fuel rows a)∧(sinkQ fuel rows a).Perm rows:=by
  induction fuel with
  | zero=>exact fun rows a _ h=>absurd h (Nat.not_lt_zero _)
  | succ fuel ih =>
    intro rows a ha hf h1 h2
    have e:sinkQ (fuel+1) rows a=if least1 rows (least1 rows a (2 * a+1)) (2 * a+2) == a then rows else sinkQ fuel (swapQ rows (least1 rows (least1 rows a (2 * a+1)) (2 * a+2)) a) (least1 rows (least1 rows a (2 * a+1)) (2 * a+2)):=rfl
    obtain ⟨l,el,hl,r⟩:=@sink_key rows a
    rw [e,el]
    have child:∀ i,0 < i→i < rows.length→(i - 1) / 2=a→rk rows i≤rk rows l:=fun i h0 hi hp=>(hpar_kid h0).elim (fun q=>q.symm▸hp.symm▸r.2.1 (hp▸q▸hi)) fun q=>q.symm▸hp.symm▸r.2.2 (hp▸q▸hi)
    by_cases hla:l=a
    · rw [if_pos (beq_iff_eq.mpr hla)]
      refine ⟨fun i h0 hi=>?_,.refl _⟩
      by_cases hp:(i - 1) / 2=a
      · rw [hp];exact hla▸child i h0 hi hp
      · exact h1 i h0 hi hp
    · rw [if_neg fun q=>hla (beq_iff_eq.mp q)]
      obtain ⟨hl2,hll⟩:=hl.resolve_left hla
      obtain ⟨hpl,hl0,hal⟩:=sink_kid hl2
      have z:=ih (swapQ rows l a) l (by rw [swapQ_len];exact hll) (by rw [swapQ_len];exact Nat.lt_of_lt_of_le (Nat.sub_lt_sub_left ha hal) (Nat.le_of_lt_succ hf)) (fun i h0 hi hp=>?_) (fun i h0 hi hp hl0=>?_)
      · exact ⟨z.1,z.2.trans (swap_perm hll ha)⟩
      · rw [swapQ_len] at hi
        rw [swap_rk hll ha,swap_rk hll ha]
        by_cases hia:i=a
        · subst hia
          rw [if_pos rfl,if_neg (hpar_no h0),if_neg hp]
          exact h2 l hl0 hll hpl h0
        · rw [if_neg hia]
          by_cases hpa:(i - 1) / 2=a
          · rw [if_pos hpa]
            by_cases hil:i=l
            · rw [if_pos hil];exact r.1
            · rw [if_neg hil];exact child i h0 hi hpa
          · rw [if_neg hpa,if_neg hp,if_neg fun q:i=l=>hpa (q▸hpl)]
            exact h1 i h0 hi hpa
      · rw [swapQ_len] at hi
        rw [swap_rk hll ha,swap_rk hll ha,hpl]
        have q1:=hp▸hpar_lt h0
        rw [if_neg (Nat.ne_of_gt (Nat.lt_trans hal q1)),if_neg (Nat.ne_of_gt q1),if_pos rfl]
        exact hp▸h1 i h0 hi fun q=>hla (hp.symm.trans q)
theorem hp_max {rows:List Qr} (h:Hp rows):∀ i,i < rows.length→rk rows i≤rk rows 0:=by
  intro i
  induction i using Nat.strongRecOn with
  | _ i ih =>
    intro hi
    by_cases h0:i=0
    · rw [h0];exact Nat.le_refl _
    · have z:=hpar_lt (Nat.pos_of_ne_zero h0)
      exact Nat.le_trans (h i (Nat.pos_of_ne_zero h0) hi) (ih _ z (Nat.lt_trans z hi))
theorem hp_mem {rows:List Qr} (h:Hp rows) {r:Qr} (m:r∈rows):r.1≤rk rows 0:=by
  obtain ⟨i,hi,e⟩:=List.mem_iff_getElem.mp m
  have:=hp_max h i hi
  unfold rk at this ⊢
  simp only [List.getD,List.getElem?_eq_getElem hi,e,Option.getD_some] at this
  exact this
theorem take_hp {rows:List Qr} (h:Hp rows) (h0:rows≠[]) (hl:rows.length < 20):∃ r,(takeQ rows).1=r.2.2∧rows.Perm (r :: (takeQ rows).2)∧Hp (takeQ rows).2∧∀ x∈rows,x.1≤r.1:=by
  have hpos:0 < rows.length:=List.length_pos_iff.mpr h0
  refine ⟨rows.getD 0 q0,?_,?_⟩
  · unfold takeQ
    split<;>rfl
  have hmax:∀ x∈rows,x.1≤(rows.getD 0 q0).1:=fun x m=>hp_mem h m
  suffices q:rows.Perm (rows.getD 0 q0 :: (takeQ rows).2)∧Hp (takeQ rows).2 from ⟨q.1,q.2,hmax⟩
  obtain ⟨a,t,rfl⟩:∃ a t,rows=a :: t:=by
    cases rows with
    | nil=>exact absurd rfl h0
    | cons a t=>exact ⟨a,t,rfl⟩
  have ea:(a :: t).getD 0 q0=a:=rfl
  rw [ea]
  cases t with
  | nil =>
    have:takeQ [a]=(a.2.2,[]):=rfl
    rw [this]
    exact ⟨.refl _,fun i h0 hi=>by simp at hi⟩
  | cons b t =>
    have hd:(a :: b :: t).dropLast=a :: (b :: t).dropLast:=rfl
    have et:takeQ (a :: b :: t)=(a.2.2,sinkQ 20 ((a :: (b :: t).dropLast).set 0 ((a :: b :: t).getD ((a :: b :: t).length - 1) q0)) 0):=by
      unfold takeQ
      rw [hd];rfl
    rw [et]
    have elast:(a :: b :: t).getD ((a :: b :: t).length - 1) q0=(b :: t).getLast (by simp):=by
      simp only [List.getD,List.length_cons,Nat.add_sub_cancel]
      rw [List.getElem?_cons_succ,List.getLast_eq_getElem]
      simp
    rw [elast,List.set_cons_zero]
    have hrows:(b :: t).dropLast++[(b :: t).getLast (by simp)]=b :: t:=List.dropLast_concat_getLast (by simp)
    have hlen:(b :: t).dropLast.length=t.length:=List.length_dropLast
    have hs:=sink_hp 20 ((b :: t).getLast (List.cons_ne_nil b t) :: (b :: t).dropLast) 0 (Nat.succ_pos _) (by rw [List.length_cons,hlen];exact Nat.lt_trans (Nat.lt_succ_self _) hl) (fun i h0' hi hp=>?_) (fun i _ _ _ z=>absurd z (Nat.not_lt_zero _))
    · refine ⟨?_,hs.1⟩
      refine List.Perm.cons a ?_
      refine List.Perm.trans ?_ hs.2.symm
      conv=>lhs;rw [← hrows]
      exact List.perm_append_comm
    · have hi2:i < t.length+1:=hlen▸hi
      have get:∀ j,0 < j→j < t.length+1→rk ((b :: t).getLast (List.cons_ne_nil b t) :: (b :: t).dropLast) j=rk (a :: b :: t) j:=fun j hj hjl=>by
        cases j with
        | zero=>exact absurd hj (Nat.lt_irrefl _)
        | succ j =>
          unfold rk List.getD
          rw [List.getElem?_cons_succ,List.getElem?_cons_succ]
          conv=>rhs;rw [← hrows]
          rw [List.getElem?_append_left (hlen.symm▸Nat.lt_of_succ_lt_succ hjl)]
      rw [get i h0' hi2,get _ (Nat.pos_of_ne_zero hp) (Nat.lt_trans (hpar_lt h0') hi2)]
      exact h i h0' (Nat.lt_succ_of_lt hi2)
noncomputable def vl (f:Fl) (x:Nat):Nat:=(look f x).getD 0
theorem look_putN:∀ (f:Fl) (k v x:Nat),look (putN f k v) x=if x=k then some v else look f x
  | [],k,v,x=>by
    show (if k == x then some v else none)=_
    by_cases h:x=k
    · subst h;simp [look]
    · have:(k == x)=false:=beq_eq_false_iff_ne.mpr (Ne.symm h)
      simp [this,h,look]
  | (a,w) :: r,k,v,x=>by
    have ih:=look_putN r k v x
    have e:putN ((a,w) :: r) k v=if a == k then (a,v) :: r else (a,w) :: putN r k v:=rfl
    have e2:∀ (u:Nat) (t:Fl),look ((a,u) :: t) x=if a == x then some u else look t x:=fun _ _=>rfl
    rw [e]
    by_cases hak:a=k
    · subst hak
      rw [if_pos (by simp),e2,e2]
      by_cases hx:x=a
      · subst hx;simp
      · have:(a == x)=false:=beq_eq_false_iff_ne.mpr (Ne.symm hx)
        simp [this,hx]
    · rw [if_neg (by simpa using hak),e2,e2,ih]
      by_cases hx:a=x
      · subst hx;simp [hak]
      · have:(a == x)=false:=beq_eq_false_iff_ne.mpr hx
        simp [this]
theorem or_nz {v m:Nat} (h:m≠0):v ||| m≠0:=fun q=>h (by
  apply Nat.eq_of_testBit_eq
  intro i
  have:=congrArg (fun z=>z.testBit i) q
  simp only [Nat.testBit_or,Nat.zero_testBit,Bool.or_eq_false_iff] at this
  rw [this.2,Nat.zero_testBit])
structure PIc (g:Gr) (n:Nat) (E:Nat→Nat→Prop) (s:PS) (o:List Nat):Prop where
  rank:∀ r∈s.rows,r.1=lev g r.2.2
  heap:Hp s.rows
  keys:∀ x,(look s.flags x).isSome=true↔x∈o∨x∈s.rows.map (·.2.2)
  nd:(o++s.rows.map (·.2.2)).Nodup
  lt:∀ x∈o++s.rows.map (·.2.2),x < n
  nz:∀ x v,look s.flags x=some v→v≠0
  ord:∀ p∈o,∀ r∈s.rows,lev g r.2.2≤lev g p
  bits:∀ x i,(vl s.flags x).testBit i=true↔E x i
  n8:n≤8
section
variable {g:Gr}{n k m:Nat}{E E':Nat→Nat→Prop}{s:PS}{o:List Nat}
theorem PIc.congr (h:PIc g n E s o) (e:∀ x i,E x i↔E' x i):PIc g n E' s o:=⟨h.rank,h.heap,h.keys,h.nd,h.lt,h.nz,h.ord,fun x i=>(h.bits x i).trans (e x i),h.n8⟩
theorem PIc.len (h:PIc g n E s o):o.length+s.rows.length≤n:=by
  have:=nodup_len n _ h.nd h.lt
  simpa using this
theorem mark_pi (h:PIc g n E s o) (hk:k < n) (hm:m≠0) (ho:∀ p∈o,lev g k≤lev g p):PIc g n (fun x i=>E x i∨(x=k∧m.testBit i=true)) (mark g s k m) o∧∀ x,x≠k→look (mark g s k m).flags x=look s.flags x:=by
  have hl:=h.len
  have h8:=h.n8
  unfold mark
  cases hlk:look s.flags k with
  | none =>
    have hnot:¬ (k∈o∨k∈s.rows.map (·.2.2)):=fun q=>by
      have:=(h.keys k).mpr q
      rw [hlk] at this;cases this
    have hE:∀ i,¬ E k i:=fun i q=>by
      have:=(h.bits k i).mpr q
      unfold vl at this
      rw [hlk] at this
      simp at this
    obtain ⟨p1,p2⟩:=put_hp (x:=(lev g k,s.came,k)) h.heap (by omega)
    have pm:=p2.map (fun r:Qr=>r.2.2)
    rw [List.map_append] at pm
    have pmem:∀ x,x∈(putQ s.rows (lev g k,s.came,k)).map (fun r:Qr=>r.2.2)↔x∈s.rows.map (fun r:Qr=>r.2.2)∨x=k:=fun x=>by
      rw [pm.mem_iff,List.mem_append]
      simp
    refine ⟨⟨fun r mr=>?_,p1,fun x=>?_,?_,fun x mx=>?_,fun x v e=>?_,fun p mp r mr=>?_,fun x i=>?_,h8⟩,fun x hx=>by rw [look_putN,if_neg hx]⟩
    · rcases mA (p2.mem_iff.mp mr) with q | q
      · exact h.rank r q
      · rw [mS q]
    · dsimp only
      rw [look_putN,pmem]
      by_cases hx:x=k
      · subst hx;simp
      · rw [if_neg hx,h.keys x]
        constructor
        · rintro (q | q)
          · exact .inl q
          · exact .inr (.inl q)
        · rintro (q | q | q)
          · exact .inl q
          · exact .inr q
          · exact absurd q hx
    · have pp:(o++(putQ s.rows (lev g k,s.came,k)).map (fun r:Qr=>r.2.2)).Perm ((o++s.rows.map (fun r:Qr=>r.2.2))++[k]):=by
        rw [List.append_assoc]
        exact List.Perm.append_left o pm
      rw [pp.nodup_iff,List.nodup_append]
      refine ⟨h.nd,by simp,fun a ha b hb q=>?_⟩
      rw [mS hb] at q
      subst q
      exact hnot (mA ha)
    · rcases mA mx with q | q
      · exact h.lt x (List.mem_append_left _ q)
      · rcases (pmem x).mp q with q | q
        · exact h.lt x (List.mem_append_right _ q)
        · rw [q];exact hk
    · dsimp only at e
      rw [look_putN] at e
      split at e
      · cases e;exact hm
      · exact h.nz x v e
    · rcases mA (p2.mem_iff.mp mr) with q | q
      · exact h.ord p mp r q
      · rw [mS q];exact ho p mp
    · unfold vl
      dsimp only
      rw [look_putN]
      by_cases hx:x=k
      · subst hx
        rw [if_pos rfl]
        constructor
        · exact fun q=>.inr ⟨rfl,q⟩
        · rintro (q | q)
          · exact absurd q (hE i)
          · exact q.2
      · rw [if_neg hx]
        have:=h.bits x i
        unfold vl at this
        rw [this]
        constructor
        · exact .inl
        · rintro (q | q)
          · exact q
          · exact absurd q.1 hx
  | some v =>
    refine ⟨⟨h.rank,h.heap,fun x=>?_,h.nd,h.lt,fun x w e=>?_,h.ord,fun x i=>?_,h8⟩,fun x hx=>by rw [look_putN,if_neg hx]⟩
    · dsimp only
      rw [look_putN,← h.keys x]
      by_cases hx:x=k
      · subst hx;simp [hlk]
      · rw [if_neg hx]
    · dsimp only at e
      rw [look_putN] at e
      split at e
      · cases e;exact or_nz hm
      · exact h.nz x w e
    · unfold vl
      dsimp only
      rw [look_putN]
      have hb:=h.bits x i
      unfold vl at hb
      by_cases hx:x=k
      · subst hx
        rw [hlk] at hb
        rw [if_pos rfl]
        simp only [Option.getD_some,Nat.testBit_or,Bool.or_eq_true,true_and] at hb ⊢
        rw [hb]
      · rw [if_neg hx,hb]
        constructor
        · exact .inl
        · rintro (q | q)
          · exact q
          · exact absurd q.1 hx
end
theorem markAll_pi {g:Gr}{n:Nat}:∀ (l:List (Nat × Nat)) (s:PS) (E:Nat→Nat→Prop),PIc g n E s []→(∀ p∈l,p.1 < n∧p.2≠0)→PIc g n (fun x i=>E x i∨∃ m,(x,m)∈l∧m.testBit i=true) (markAll g s l) []
  | [],s,E,h,_=>h.congr fun x i=>by
    constructor
    · exact .inl
    · rintro (q | ⟨m,q,_⟩)
      · exact q
      · cases q
  | (k,m) :: r,s,E,h,hl=>by
    obtain ⟨q1,q2⟩:=hl (k,m) (List.mem_cons_self ..)
    have h1:=(mark_pi h q1 q2 fun p mp=>by cases mp).1
    have h2:=markAll_pi r _ _ h1 fun p mp=>hl p (List.mem_cons_of_mem _ mp)
    refine PIc.congr h2 fun x i=>?_
    constructor
    · rintro ((q | ⟨q,b⟩) | ⟨m',q,b⟩)
      · exact .inl q
      · exact .inr ⟨m,by rw [q];exact List.mem_cons_self ..,b⟩
      · exact .inr ⟨m',List.mem_cons_of_mem _ q,b⟩
    · rintro (q | ⟨m',q,b⟩)
      · exact .inl (.inl q)
      · rcases mZ q with q | q
        · cases q;exact .inl (.inr ⟨rfl,b⟩)
        · exact .inr ⟨m',q,b⟩
theorem spread_pi {g:Gr}{n k:Nat}{pf:Nat→Nat}{o:List Nat}{M:Nat}:∀ (l:List Nat) (s:PS) (E:Nat→Nat→Prop),PIc g n E s o→k∉l→M=pf ((look s.flags k).getD 0)→(∀ p∈l,p < n∧∀ q∈o,lev g p≤lev g q) →
    PIc g n (fun x i=>E x i∨(x∈l∧M.testBit i=true)) (spread g pf k s l) o∧∀ x,x∉l→look (spread g pf k s l).flags x=look s.flags x
  | [],s,E,h,_,_,_=>⟨h.congr fun x i=>by simp,fun x _=>rfl⟩
  | p :: r,s,E,h,hk,hM,hl=>by
    obtain ⟨q1,q2⟩:=hl p (List.mem_cons_self ..)
    have hkp:k≠p:=fun q=>hk (by rw [q];exact List.mem_cons_self ..)
    have e:spread g pf k s (p :: r)=if M=0 then spread g pf k s r else spread g pf k (mark g s p M) r:=by
      show (match pf ((look s.flags k).getD 0) with
        | 0=>spread g pf k s r
        | m=>spread g pf k (mark g s p m) r)=_
      rw [← hM]
      cases M<;>rfl
    rw [e]
    have hr:=fun z m=>hl z (List.mem_cons_of_mem _ m)
    have hkr:k∉r:=fun q=>hk (List.mem_cons_of_mem _ q)
    by_cases hm:M=0
    · rw [if_pos hm]
      obtain ⟨a,b⟩:=spread_pi (M:=M) r s E h hkr hM hr
      refine ⟨a.congr fun x i=>?_,fun x hx=>b x fun q=>hx (List.mem_cons_of_mem _ q)⟩
      rw [hm]
      simp
    · obtain ⟨h1,h2⟩:=mark_pi h q1 hm q2
      obtain ⟨a,b⟩:=spread_pi (M:=M) r (mark g s p M) _ h1 hkr (by rw [h2 k hkp];exact hM) hr
      rw [if_neg hm]
      refine ⟨a.congr fun x i=>?_,fun x hx=>?_⟩
      · rw [List.mem_cons]
        constructor
        · rintro ((q | ⟨q,w⟩) | ⟨q,w⟩)
          · exact .inl q
          · exact .inr ⟨.inl q,w⟩
          · exact .inr ⟨.inr q,w⟩
        · rintro (q | ⟨q | q,w⟩)
          · exact .inl (.inl q)
          · exact .inl (.inr ⟨q,w⟩)
          · exact .inr ⟨q,w⟩
      · rw [b x fun q=>hx (List.mem_cons_of_mem _ q),h2 x fun q=>hx (by rw [q];exact List.mem_cons_self ..)]
theorem pop_pi {g:Gr}{n:Nat}{E:Nat→Nat→Prop}{s:PS}{o:List Nat} (h:PIc g n E s o) (h0:s.rows≠[]):(takeQ s.rows).1 < n∧(∀ q∈o,lev g (takeQ s.rows).1≤lev g q)∧PIc g n E ⟨s.flags,(takeQ s.rows).2,s.came⟩ (o++[(takeQ s.rows).1]):=by
  have hl:=h.len
  have h8:=h.n8
  obtain ⟨r,e1,pm,hp,hmax⟩:=take_hp h.heap h0 (by omega)
  have hr:r∈s.rows:=pm.mem_iff.mpr (List.mem_cons_self ..)
  have hsub:∀ x∈(takeQ s.rows).2,x∈s.rows:=fun x m=>pm.mem_iff.mpr (List.mem_cons_of_mem _ m)
  have pmm:=pm.map (fun r:Qr=>r.2.2)
  rw [List.map_cons,← e1] at pmm
  have hkm:(takeQ s.rows).1∈s.rows.map (fun r:Qr=>r.2.2):=pmm.mem_iff.mpr (List.mem_cons_self ..)
  have pp:((o++[(takeQ s.rows).1])++(takeQ s.rows).2.map (fun r:Qr=>r.2.2)).Perm (o++s.rows.map (fun r:Qr=>r.2.2)):=by
    rw [List.append_assoc]
    exact List.Perm.append_left o pmm.symm
  refine ⟨h.lt _ (List.mem_append_right _ hkm),fun q mq=>by rw [e1];exact h.ord q mq r hr,⟨fun x m=>h.rank x (hsub x m),hp,fun x=>?_,pp.nodup_iff.mpr h.nd,fun x m=>h.lt x (pp.mem_iff.mp m),h.nz,fun p mp x mx=>?_,h.bits,h8⟩⟩
  · rw [h.keys x,pmm.mem_iff]
    simp only [List.mem_append,List.mem_cons,List.not_mem_nil,or_false]
    constructor
    · rintro (q | q | q)
      · exact .inl (.inl q)
      · exact .inl (.inr q)
      · exact .inr q
    · rintro ((q | q) | q)
      · exact .inl q
      · exact .inr (.inl q)
      · exact .inr (.inr q)
  · rcases mA mp with q | q
    · exact h.ord p q x (hsub x mx)
    · rw [mS q,e1,← h.rank r hr,← h.rank x (hsub x mx)]
      exact hmax x (hsub x mx)
theorem maxN_le {a:Nat}:∀ {l:List Nat},a∈l→a≤maxN l
  | x :: r,h=>by
    have e:maxN (x :: r)=Nat.max x (maxN r):=rfl
    rw [e]
    rcases mZ h with h | h
    · rw [h];exact Nat.le_max_left ..
    · exact Nat.le_trans (maxN_le h) (Nat.le_max_right ..)
theorem lev_lt {g:Gr} (wf:∀ k,k < g.length→∀ j∈par g k,j < k) {k j:Nat} (hk:k < g.length) (hj:j∈par g k):lev g j < lev g k:=by
  rw [lev_eq hk (wf k hk)]
  have:=maxN_le (List.mem_map.mpr ⟨j,hj,rfl⟩:lev g j∈(par g k).map (lev g))
  omega
noncomputable def Eo (g:Gr) (pf:Nat→Nat) (b:List (Nat × Nat)) (fl:Fl) (o:List Nat) (x i:Nat):Prop:=(∃ m,(x,m)∈b∧m.testBit i=true)∨∃ c∈o,x∈par g c∧(pf (vl fl c)).testBit i=true
structure PF (g:Gr) (pf:Nat→Nat) (b:List (Nat × Nat)) (o:List Nat) (fl:Fl):Prop where
  nd:o.Nodup
  lt:∀ x∈o,x < g.length
  keys:∀ x,(look fl x).isSome=true↔x∈o
  nz:∀ x v,look fl x=some v→v≠0
  bits:∀ x i,(vl fl x).testBit i=true↔Eo g pf b fl o x i
theorem paint_fix {g:Gr}{pf:Nat→Nat}{b:List (Nat × Nat)} (wf:∀ k,k < g.length→∀ j∈par g k,j < k):∀ (f:Nat) (s:PS) (o:List Nat),PIc g g.length (Eo g pf b s.flags o) s o→g.length < o.length+f→PF g pf b (paintGo g pf f s o).1 (paintGo g pf f s o).2
  | 0,s,o,h,hf=>by have:=h.len;omega
  | f+1,s,o,h,hf=>by
    by_cases h0:s.rows=[]
    · rw [paint_end h0]
      have nd:=h.nd
      have keys:=h.keys
      have lt:=h.lt
      rw [h0] at nd keys lt
      simp only [List.map_nil,List.append_nil,List.not_mem_nil,or_false] at nd keys lt
      exact ⟨nd,lt,keys,h.nz,h.bits⟩
    · rw [paint_step h0]
      obtain ⟨hk,hord,h1⟩:=pop_pi h h0
      generalize (takeQ s.rows).1=k at *
      generalize (takeQ s.rows).2=rw0 at *
      have hpk:∀ p∈par g k,p < g.length∧∀ q∈o++[k],lev g p≤lev g q:=fun p mp=>by
        have h2:=lev_lt wf hk mp
        have h3:=wf k hk p mp
        refine ⟨by omega,fun q mq=>?_⟩
        rcases mA mq with mq | mq
        · have:=hord q mq;omega
        · rw [mS mq];omega
      have hkk:k∉par g k:=fun q=>by have:=wf k hk k q;omega
      obtain ⟨a,c⟩:=spread_pi (pf:=pf) (M:=pf ((look s.flags k).getD 0)) (par g k) ⟨s.flags,rw0,s.came⟩ _ h1 hkk rfl hpk
      have same:∀ q∈o++[k],q∉par g k:=fun q mq z=>by
        have h2:=lev_lt wf hk z
        rcases mA mq with mq | mq
        · have:=hord q mq;omega
        · rw [mS mq] at z;exact hkk z
      have vs:∀ q∈o++[k],vl (spread g pf k ⟨s.flags,rw0,s.came⟩ (par g k)).flags q=vl s.flags q:=fun q mq=>by
        unfold vl;rw [c q (same q mq)]
      refine paint_fix wf f _ (o++[k]) (a.congr fun x i=>?_) (by simp;omega)
      unfold Eo
      constructor
      · rintro ((q | ⟨z,mz,q,w⟩) | ⟨q,w⟩)
        · exact .inl q
        · exact .inr ⟨z,List.mem_append_left _ mz,q,by rw [vs z (List.mem_append_left _ mz)];exact w⟩
        · exact .inr ⟨k,by simp,q,by rw [vs k (by simp)];exact w⟩
      · rintro (q | ⟨z,mz,q,w⟩)
        · exact .inl (.inl q)
        · rw [vs z mz] at w
          rcases mA mz with mz | mz
          · exact .inl (.inr ⟨z,mz,q,w⟩)
          · rw [mS mz] at q w
            exact .inr ⟨q,w⟩
theorem painted_fix {g:Gr}{pf:Nat→Nat}{b:List (Nat × Nat)} (wf:∀ k,k < g.length→∀ j∈par g k,j < k) (hn:g.length≤8) (hb:∀ p∈b,p.1 < g.length∧p.2≠0):PF g pf b (painted g pf b).1 (painted g pf b).2:=by
  unfold painted
  refine paint_fix wf 40 _ [] ?_ (by simp;omega)
  have h0:PIc g g.length (fun _ _=>False) ⟨[],[],0⟩ []:=⟨fun r m=>(by cases m),fun i h hi=>(by simp at hi),fun x=>by simp [look],List.nodup_nil,fun x m=>(by cases m),fun x v e=>(by cases e),fun p m=>(by cases m),fun x i=>by simp [vl,look],hn⟩
  refine (markAll_pi b _ _ h0 hb).congr fun x i=>?_
  unfold Eo
  constructor
  · rintro (q | q)
    · exact q.elim
    · exact .inl q
  · rintro (q | ⟨c,mc,_⟩)
    · exact .inr q
    · cases mc
noncomputable abbrev Srt (l:List Nat):Prop:=l.Pairwise (· < ·)
theorem insN_iff {a x:Nat}:∀ {l:List Nat},x∈insN a l↔x=a∨x∈l
  | []=>by simp [insN]
  | y :: r=>by
    unfold insN
    split
    · simp
    · rw [List.mem_cons,insN_iff,List.mem_cons]
      constructor
      · rintro (q | q | q)
        · exact .inr (.inl q)
        · exact .inl q
        · exact .inr (.inr q)
      · rintro (q | q | q)
        · exact .inr (.inl q)
        · exact .inl q
        · exact .inr (.inr q)
theorem isortN_iff {x:Nat}:∀ {l:List Nat},x∈isortN l↔x∈l
  | []=>Iff.rfl
  | y :: r=>by
    show x∈insN y (isortN r)↔_
    rw [insN_iff,isortN_iff,List.mem_cons]
theorem insN_srt {a:Nat}:∀ {l:List Nat},Srt l→a∉l→Srt (insN a l)
  | [],_,_=>by simp [insN]
  | y :: r,h,ha=>by
    have h:=List.pairwise_cons.mp h
    unfold insN
    split
    · rename_i q
      have hay:a < y:=by simpa [Nat.blt_eq] using q
      refine List.pairwise_cons.mpr ⟨fun x m=>?_,List.pairwise_cons.mpr h⟩
      rcases mZ m with m | m
      · rw [m];exact hay
      · have:=h.1 x m;omega
    · rename_i q
      have hay:¬ a < y:=by simpa [Nat.blt_eq] using q
      have hne:a≠y:=fun z=>ha (by rw [z];exact List.mem_cons_self ..)
      refine List.pairwise_cons.mpr ⟨fun x m=>?_,insN_srt h.2 fun z=>ha (List.mem_cons_of_mem _ z)⟩
      rcases insN_iff.mp m with m | m
      · rw [m];omega
      · exact h.1 x m
theorem isortN_srt:∀ {l:List Nat},l.Nodup→Srt (isortN l)
  | [],_=>List.Pairwise.nil
  | y :: r,h=>by
    rw [List.nodup_cons] at h
    show Srt (insN y (isortN r))
    exact insN_srt (isortN_srt h.2) fun q=>h.1 (isortN_iff.mp q)
theorem srt_eq:∀ {l t:List Nat},Srt l→Srt t→(∀ x,x∈l↔x∈t)→l=t
  | [],[],_,_,_=>rfl
  | [],b :: t,_,_,h=>by have:=(h b).mpr (List.mem_cons_self ..);cases this
  | a :: l,[],_,_,h=>by have:=(h a).mp (List.mem_cons_self ..);cases this
  | a :: l,b :: t,h1,h2,h=>by
    have h1:=List.pairwise_cons.mp h1
    have h2:=List.pairwise_cons.mp h2
    have hab:a=b:=by
      rcases mZ ((h a).mp (List.mem_cons_self ..)) with q | q
      · exact q
      · rcases mZ ((h b).mpr (List.mem_cons_self ..)) with z | z
        · exact z.symm
        · have:=h1.1 b z;have:=h2.1 a q;omega
    subst hab
    rw [srt_eq h1.2 h2.2 fun x=>?_]
    constructor
    · intro m
      rcases mZ ((h x).mp (List.mem_cons_of_mem _ m)) with q | q
      · have:=h1.1 x m;omega
      · exact q
    · intro m
      rcases mZ ((h x).mpr (List.mem_cons_of_mem _ m)) with q | q
      · have:=h2.1 x m;omega
      · exact q
theorem srt_nodup {l:List Nat} (h:Srt l):l.Nodup:=List.Pairwise.imp (fun q=>Nat.ne_of_lt q) h
theorem addN_iff {k x:Nat}{l:List Nat}:x∈addN k l↔x∈l∨x=k:=by
  unfold addN
  split
  · rename_i q
    have:k∈l:=by simpa using q
    constructor
    · exact .inl
    · rintro (z | z)
      · exact z
      · rw [z];exact this
  · simp
theorem addAll_iff {x:Nat}:∀ {xs l:List Nat},x∈addAll l xs↔x∈l∨x∈xs
  | [],l=>by simp [addAll]
  | k :: r,l=>by
    show x∈addAll (addN k l) r↔_
    rw [addAll_iff,addN_iff,List.mem_cons]
    constructor
    · rintro ((q | q) | q)
      · exact .inl q
      · exact .inr (.inl q)
      · exact .inr (.inr q)
    · rintro (q | q | q)
      · exact .inl (.inl q)
      · exact .inl (.inr q)
      · exact .inr q
theorem addAll_nodup:∀ {xs l:List Nat},l.Nodup→(addAll l xs).Nodup
  | [],l,h=>h
  | k :: r,l,h=>by
    show (addAll (addN k l) r).Nodup
    refine addAll_nodup ?_
    unfold addN
    cases hc:l.contains k with
    | true=>simpa using h
    | false =>
      simp only [Bool.false_eq_true,if_false]
      rw [List.nodup_append]
      refine ⟨h,by simp,fun a ha b hb q=>?_⟩
      rw [mS hb] at q
      subst q
      have:l.contains a=true:=by simpa using ha
      rw [hc] at this;cases this
theorem reachGo_ext:∀ (rows:Gr) (k:Nat) (found:List (List Nat)),(reachGo k rows found).length=found.length+rows.length∧∀ i,i < found.length→par (reachGo k rows found) i=par found i
  | [],k,found=>⟨rfl,fun i h=>rfl⟩
  | row :: r,k,found=>by
    obtain ⟨a,b⟩:=reachGo_ext r (k+1) (found++[isortN (addAll [k] (row.flatMap fun j=>found.getD j []))])
    have e:reachGo k (row :: r) found=reachGo (k+1) r (found++[isortN (addAll [k] (row.flatMap fun j=>found.getD j []))]):=rfl
    rw [e]
    refine ⟨by rw [a];simp;omega,fun i h=>?_⟩
    rw [b i (by simp;omega),par_app_lt h]
theorem reachGo_eq:∀ (rows:Gr) (found:List (List Nat)) (j:Nat),j < rows.length→(∀ j,j < rows.length→∀ x∈par rows j,x < found.length+j)→par (reachGo found.length rows found) (found.length+j)=isortN (addAll [found.length+j] ((par rows j).flatMap (par (reachGo found.length rows found))))
  | [],found,j,h,_=>by simp at h
  | row :: r,found,j,h,hw=>by
    have e:reachGo found.length (row :: r) found=reachGo (found.length+1) r (found++[isortN (addAll [found.length] (row.flatMap fun j=>found.getD j []))]):=rfl
    have el:(found++[isortN (addAll [found.length] (row.flatMap fun j=>found.getD j []))]).length=found.length+1:=by simp
    cases j with
    | zero =>
      obtain ⟨_,ext⟩:=reachGo_ext (row :: r) found.length found
      have h0:par (reachGo found.length (row :: r) found) found.length=isortN (addAll [found.length] (row.flatMap (par found))):=by
        obtain ⟨_,b⟩:=reachGo_ext r (found.length+1) (found++[isortN (addAll [found.length] (row.flatMap fun j=>found.getD j []))])
        rw [e,b found.length (by rw [el];omega),par_app_eq]
        rfl
      rw [Nat.add_zero,h0]
      have hr:par (row :: r) 0=row:=rfl
      rw [hr]
      have hw0:=hw 0 (by simp)
      rw [hr] at hw0
      have:row.flatMap (par found)=row.flatMap (par (reachGo found.length (row :: r) found)):=by
        rw [List.flatMap_def,List.flatMap_def]
        congr 1
        exact List.map_congr_left fun x m=>(ext x (hw0 x m)).symm
      rw [this]
    | succ j =>
      have ih:=reachGo_eq r (found++[isortN (addAll [found.length] (row.flatMap fun j=>found.getD j []))]) j (by simpa using h) fun i hi x m=>by
        have:=hw (i+1) (by simpa using hi) x m
        rw [el];omega
      rw [el,← e] at ih
      have ea:found.length+1+j=found.length+(j+1):=by omega
      rw [ea] at ih
      exact ih
section
variable {g:Gr} (wf:∀ k,k < g.length→∀ j∈par g k,j < k)
theorem reached_len:(reached g).length=g.length:=by
  have:=(reachGo_ext g 0 []).1
  simpa [reached] using this
include wf
theorem re_eq {k:Nat} (hk:k < g.length):par (reached g) k=isortN (addAll [k] ((par g k).flatMap (par (reached g)))):=by
  have:=reachGo_eq g [] k hk fun j hj x m=>by have:=wf j hj x m;simpa using this
  simpa [reached] using this
theorem re_srt {k:Nat} (hk:k < g.length):Srt (par (reached g) k):=by
  rw [re_eq wf hk]
  exact isortN_srt (addAll_nodup (by simp))
theorem re_iff {k x:Nat} (hk:k < g.length):x∈par (reached g) k↔x=k∨∃ j∈par g k,x∈par (reached g) j:=by
  conv=>lhs;rw [re_eq wf hk]
  rw [isortN_iff,addAll_iff,List.mem_singleton,List.mem_flatMap]
theorem re_self {k:Nat} (hk:k < g.length):k∈par (reached g) k:=(re_iff wf hk).mpr (.inl rfl)
theorem re_le {x:Nat}:∀ {k:Nat},k < g.length→x∈par (reached g) k→x≤k:=by
  intro k
  induction k using Nat.strongRecOn with
  | _ k ih =>
    intro hk m
    rcases (re_iff wf hk).mp m with q | ⟨j,hj,q⟩
    · omega
    · have:=wf k hk j hj
      have:=ih j this (by omega) q
      omega
theorem re_trans {x y:Nat}:∀ {k:Nat},k < g.length→y∈par (reached g) k→x∈par (reached g) y→x∈par (reached g) k:=by
  intro k
  induction k using Nat.strongRecOn with
  | _ k ih =>
    intro hk m h
    rcases (re_iff wf hk).mp m with q | ⟨j,hj,q⟩
    · rw [← q];exact h
    · have:=wf k hk j hj
      exact (re_iff wf hk).mpr (.inr ⟨j,hj,ih j this (by omega) q h⟩)
theorem re_step {x c k:Nat} (hk:k < g.length) (hc:c∈par (reached g) k) (hx:x∈par g c):x∈par (reached g) k:=by
  have hck:=re_le wf hk hc
  have hc2:c < g.length:=by omega
  have:=wf c hc2 x hx
  exact re_trans wf hk hc ((re_iff wf hc2).mpr (.inr ⟨x,hx,re_self wf (by omega)⟩))
theorem re_last {x:Nat}:∀ {k:Nat},k < g.length→x∈par (reached g) k→x≠k→∃ c∈par (reached g) k,x∈par g c:=by
  intro k
  induction k using Nat.strongRecOn with
  | _ k ih =>
    intro hk m hne
    rcases (re_iff wf hk).mp m with q | ⟨j,hj,q⟩
    · exact absurd q hne
    · have hjk:=wf k hk j hj
      by_cases hxj:x=j
      · exact ⟨k,re_self wf hk,by rw [hxj];exact hj⟩
      · obtain ⟨c,hc,hx⟩:=ih j hjk (by omega) q hxj
        exact ⟨c,(re_iff wf hk).mpr (.inr ⟨j,hj,hc⟩),hx⟩
theorem re_lt {k x:Nat} (hk:k < g.length) (h:x∈par (reached g) k):x < g.length:=by have:=re_le wf hk h;omega
end
noncomputable def begunL:Nat→List Nat→List (Nat × Nat)
  | _,[]=>[]
  | n,k :: r=>(k,2 ^ n) :: begunL (n+1) r
theorem begunL_of:∀ (n:Nat) (ks:List Nat),begunOf n (ks.map fun k=>[k])=begunL n ks
  | _,[]=>rfl
  | n,k :: r=>by
    show [k].map (fun k=>(k,2 ^ n))++begunOf (n+1) (r.map fun k=>[k])=_
    rw [begunL_of (n+1) r];rfl
theorem begunL_len:∀ (n:Nat) (ks:List Nat),(begunL n ks).length=ks.length
  | _,[]=>rfl
  | n,k :: r=>by show (begunL (n+1) r).length+1=_;rw [begunL_len];rfl
theorem begunL_mem:∀ (n:Nat) (ks:List Nat) (p:Nat × Nat),p∈begunL n ks→p.1∈ks
  | _,[],p,h=>by cases h
  | n,k :: r,p,h=>by
    rcases mZ h with h | h
    · rw [h];exact List.mem_cons_self ..
    · exact List.mem_cons_of_mem _ (begunL_mem (n+1) r p h)
section
variable {g:Gr} (wf:∀ k,k < g.length→∀ j∈par g k,j < k) {pf:Nat→Nat}{b:List (Nat × Nat)}{o:List Nat}{fl:Fl}
theorem vl_in (h:PF g pf b o fl) {x i:Nat} (q:(vl fl x).testBit i=true):x∈o:=by
  refine (h.keys x).mp ?_
  unfold vl at q
  cases hl:look fl x with
  | none=>rw [hl] at q;simp at q
  | some v=>rfl
include wf
theorem bit_reach (h:PF g pf b o fl) (hb:∀ p∈b,p.1 < g.length) {i:Nat} (hp:∀ m,(pf m).testBit i=m.testBit i):∀ (d x:Nat),g.length - x≤d→((vl fl x).testBit i=true↔∃ y m,(y,m)∈b∧m.testBit i=true∧x∈par (reached g) y):=by
  intro d
  induction d with
  | zero =>
    intro x hx
    rw [h.bits x i]
    unfold Eo
    constructor
    · rintro (⟨m,q,w⟩ | ⟨c,mc,q,w⟩)
      · exact sub_no hx (hb _ q)
      · have hc:=h.lt c mc;exact sub_no hx (Nat.lt_trans (wf c hc x q) hc)
    · rintro ⟨y,m,q,w,z⟩
      have hy:=hb _ q
      exact sub_no hx (Nat.lt_of_le_of_lt (re_le wf hy z) hy)
  | succ d ih =>
    intro x hx
    rw [h.bits x i]
    unfold Eo
    constructor
    · rintro (⟨m,q,w⟩ | ⟨c,mc,q,w⟩)
      · have:=hb _ q;dsimp only at this
        exact ⟨x,m,q,w,re_self wf this⟩
      · have hc:=h.lt c mc
        have hxc:=wf c hc x q
        rw [hp] at w
        obtain ⟨y,m,q2,w2,z⟩:=(ih c (sub_step hc hxc hx)).mp w
        have:=hb _ q2;dsimp only at this
        exact ⟨y,m,q2,w2,re_step wf this z q⟩
    · rintro ⟨y,m,q,w,z⟩
      have hy:=hb _ q;dsimp only at hy
      by_cases hxy:x=y
      · exact .inl ⟨m,by rw [hxy];exact q,w⟩
      · obtain ⟨c,hc,hxc⟩:=re_last wf hy z hxy
        have hcn:=re_lt wf hy hc
        have wc:=(ih c (sub_step hcn (wf c hcn x hxc) hx)).mpr ⟨y,m,q,w,hc⟩
        exact .inr ⟨c,vl_in h wc,hxc,by rw [hp];exact wc⟩
end
theorem begunL_iff:∀ (ks:List Nat) (s x m:Nat),(x,m)∈begunL s ks↔∃ j,ks[j]?=some x∧m=2 ^ (s+j)
  | [],s,x,m=>by simp [begunL]
  | k :: r,s,x,m=>by
    show (x,m)∈(k,2 ^ s) :: begunL (s+1) r↔_
    rw [List.mem_cons,begunL_iff r (s+1) x m]
    constructor
    · rintro (q | ⟨j,q,w⟩)
      · cases q;exact ⟨0,rfl,rfl⟩
      · exact ⟨j+1,q,by rw [w];congr 1;omega⟩
    · rintro ⟨j,q,w⟩
      cases j with
      | zero =>
        refine .inl ?_
        simp at q
        rw [w,q];rfl
      | succ j=>exact .inr ⟨j,q,by rw [w];congr 1;omega⟩
theorem full_iff {n m:Nat}:(m &&& (2 ^ n - 1) == 2 ^ n - 1)=true↔∀ i,i < n→m.testBit i=true:=by
  rw [beq_iff_eq]
  constructor
  · intro q i hi
    have:=congrArg (fun z=>z.testBit i) q
    simp only [Nat.testBit_and,Nat.testBit_two_pow_sub_one,hi,decide_true,Bool.and_true] at this
    exact this
  · intro q
    apply Nat.eq_of_testBit_eq
    intro i
    rw [Nat.testBit_and,Nat.testBit_two_pow_sub_one]
    by_cases hi:i < n
    · simp [hi,q i hi]
    · simp [hi]
theorem passP_ne {n m i:Nat} (h:i≠n):(passP n m).testBit i=m.testBit i:=by
  unfold passP
  split
  · rw [Nat.testBit_or,Nat.testBit_two_pow_of_ne (Ne.symm h),Bool.or_false]
  · rfl
theorem passP_eq {n m:Nat}:(passP n m).testBit n=true↔m.testBit n=true∨∀ i,i < n→m.testBit i=true:=by
  unfold passP
  cases hq:(m &&& (2 ^ n - 1) == 2 ^ n - 1) with
  | true =>
    simp only [if_true,Nat.testBit_or,Nat.testBit_two_pow_self,Bool.or_true,true_iff]
    exact .inr (full_iff.mp hq)
  | false =>
    simp only [Bool.false_eq_true,if_false]
    constructor
    · exact .inl
    · rintro (q | q)
      · exact q
      · rw [full_iff.mpr q] at hq;cases hq
theorem best_eq {g:Gr}{ks common:List Nat} (wf:∀ k,k < g.length→∀ j∈par g k,j < k) (hn:g.length≤8) (h0:ks≠[]) (hk:∀ k∈ks,k < g.length) (hc:∀ x,x∈common↔∀ k∈ks,x∈par (reached g) k) (hnd:common.Nodup) :
    bestCommon g (ks.map fun k=>[k])=isortN (bestP (reached g) common):=by
  have hbc:bestCommon g (ks.map fun k=>[k])=isortN ((painted g (passP ks.length) (begunL 0 ks)).1.filter fun k=>look (painted g (passP ks.length) (begunL 0 ks)).2 k == some (2 ^ ks.length - 1)):=by
    unfold bestCommon
    rw [List.length_map,begunL_of]
  have hb:∀ p∈begunL 0 ks,p.1 < g.length∧p.2≠0:=fun p m=>by
    obtain ⟨x,v⟩:=p
    obtain ⟨j,q,w⟩:=(begunL_iff ks 0 x v).mp m
    exact ⟨hk x (List.mem_of_getElem? q),by rw [w];exact Nat.ne_of_gt (Nat.pow_pos (by omega))⟩
  have F:=painted_fix (pf:=passP ks.length) wf hn hb
  rw [hbc]
  generalize (painted g (passP ks.length) (begunL 0 ks)).1=o at *
  generalize (painted g (passP ks.length) (begunL 0 ks)).2=fl at *
  have hN:0 < ks.length:=List.length_pos_iff.mpr h0
  have low:∀ x i,i≠ks.length→((vl fl x).testBit i=true↔∃ k,ks[i]?=some k∧x∈par (reached g) k):=fun x i hi=>by
    rw [bit_reach wf F (fun p m=>(hb p m).1) (fun m=>passP_ne hi) (g.length - x) x (Nat.le_refl _)]
    constructor
    · rintro ⟨y,m,q,w,z⟩
      obtain ⟨j,q2,w2⟩:=(begunL_iff ks 0 y m).mp q
      rw [w2,Nat.zero_add,Nat.testBit_two_pow] at w
      have:j=i:=by simpa using w
      subst this
      exact ⟨y,q2,z⟩
    · rintro ⟨k,q,z⟩
      exact ⟨k,2 ^ i,(begunL_iff ks 0 k _).mpr ⟨i,q,by rw [Nat.zero_add]⟩,Nat.testBit_two_pow_self,z⟩
  have full:∀ x,(∀ i,i < ks.length→(vl fl x).testBit i=true)↔x∈common:=fun x=>by
    rw [hc]
    constructor
    · intro q k mk
      obtain ⟨i,hi,e⟩:=List.mem_iff_getElem.mp mk
      obtain ⟨k',e',z⟩:=(low x i (Nat.ne_of_lt hi)).mp (q i hi)
      rw [List.getElem?_eq_getElem hi,e] at e'
      cases e'
      exact z
    · intro q i hi
      exact (low x i (Nat.ne_of_lt hi)).mpr ⟨_,List.getElem?_eq_getElem hi,q _ (List.getElem_mem hi)⟩
  have cn:∀ x∈common,x < g.length:=fun x m=>by
    obtain ⟨k,mk⟩:=List.exists_mem_of_ne_nil ks h0
    exact re_lt wf (hk k mk) ((hc x).mp m k mk)
  have stale:∀ (d x:Nat),g.length - x≤d→((vl fl x).testBit ks.length=true↔∃ y∈common,y≠x∧x∈par (reached g) y):=by
    intro d
    have nob:∀ x,¬ ∃ m,(x,m)∈begunL 0 ks∧m.testBit ks.length=true:=fun x=>by
      rintro ⟨m,q,w⟩
      obtain ⟨j,q2,w2⟩:=(begunL_iff ks 0 x m).mp q
      rw [w2,Nat.zero_add,Nat.testBit_two_pow] at w
      have:j=ks.length:=by simpa using w
      exact absurd (gS q2).1 (this▸Nat.lt_irrefl _)
    induction d with
    | zero =>
      intro x hx
      rw [F.bits]
      unfold Eo
      constructor
      · rintro (q | ⟨c,mc,q,w⟩)
        · exact absurd q (nob x)
        · have hc:=F.lt c mc;exact sub_no hx (Nat.lt_trans (wf c hc x q) hc)
      · rintro ⟨y,my,hne,z⟩
        exact sub_no hx (Nat.lt_of_le_of_lt (re_le wf (cn y my) z) (cn y my))
    | succ d ih =>
      intro x hx
      rw [F.bits]
      unfold Eo
      constructor
      · rintro (q | ⟨c,mc,q,w⟩)
        · exact absurd q (nob x)
        · have hcn:=F.lt c mc
          have hxc:=wf c hcn x q
          rcases passP_eq.mp w with w | w
          · obtain ⟨y,my,hne,z⟩:=(ih c (sub_step hcn hxc hx)).mp w
            have:=re_le wf (cn y my) z
            exact ⟨y,my,Nat.ne_of_gt (Nat.lt_of_lt_of_le hxc this),re_step wf (cn y my) z q⟩
          · exact ⟨c,(full c).mp w,Nat.ne_of_gt hxc,re_step wf hcn (re_self wf hcn) q⟩
      · rintro ⟨y,my,hne,z⟩
        have hyn:=cn y my
        obtain ⟨c,hcy,hxc⟩:=re_last wf hyn z (Ne.symm hne)
        have hcn:=re_lt wf hyn hcy
        have hxc':=wf c hcn x hxc
        have hfc:∀ i,i < ks.length→(vl fl c).testBit i=true:=(full c).mpr ((hc c).mpr fun k mk=>re_trans wf (hk k mk) ((hc y).mp my k mk) hcy)
        refine .inr ⟨c,vl_in F (hfc 0 hN),hxc,passP_eq.mpr ?_⟩
        exact .inr hfc
  refine srt_eq (isortN_srt (F.nd.filter _)) (isortN_srt (hnd.filter _)) fun x=>?_
  rw [isortN_iff,isortN_iff,List.mem_filter]
  unfold bestP
  rw [List.mem_filter]
  have hst:=stale (g.length - x) x (Nat.le_refl _)
  have key:look fl x=some (2 ^ ks.length - 1)↔x∈common∧¬ ∃ y∈common,y≠x∧x∈par (reached g) y:=by
    rw [← full x,← hst]
    constructor
    · intro q
      have hv:vl fl x=2 ^ ks.length - 1:=by unfold vl;rw [q];rfl
      rw [hv]
      refine ⟨fun i hi=>by rw [Nat.testBit_two_pow_sub_one];simpa using hi,?_⟩
      rw [Nat.testBit_two_pow_sub_one]
      simp
    · rintro ⟨q1,q2⟩
      have hv:vl fl x=2 ^ ks.length - 1:=by
        apply Nat.eq_of_testBit_eq
        intro i
        rw [Nat.testBit_two_pow_sub_one]
        by_cases hi:i < ks.length
        · rw [q1 i hi];simp [hi]
        · by_cases hi2:i=ks.length
          · subst hi2
            simp only [Nat.lt_irrefl,decide_false]
            simpa using q2
          · have:¬ (vl fl x).testBit i=true:=fun z=>by
              obtain ⟨k,e,_⟩:=(low x i hi2).mp z
              have:=(gS e).1
              omega
            simp only [hi,decide_false]
            simpa using this
      have hin:=vl_in F (q1 0 hN)
      have:=(F.keys x).mpr hin
      unfold vl at hv
      cases hl:look fl x with
      | none=>rw [hl] at this;cases this
      | some v=>rw [hl] at hv;simp at hv;rw [hv]
  have e1:(look fl x == some (2 ^ ks.length - 1))=true↔look fl x=some (2 ^ ks.length - 1):=by simp
  rw [e1,key]
  have e2:((common.filter fun y=>y != x && ((reached g).getD y []).contains x) == [])=true↔¬ ∃ y∈common,y≠x∧x∈par (reached g) y:=by
    rw [beq_iff_eq,List.filter_eq_nil_iff]
    constructor
    · rintro q ⟨y,my,hne,z⟩
      refine q y my ?_
      rw [Bool.and_eq_true]
      exact ⟨by simpa using hne,by simpa [par] using z⟩
    · intro q y my z
      rw [Bool.and_eq_true] at z
      exact q ⟨y,my,by simpa using z.1,by simpa [par] using z.2⟩
  rw [e2]
  constructor
  · exact fun q=>q.2
  · intro q
    refine ⟨?_,q⟩
    exact vl_in F ((full x).mpr q.1 0 hN)
section
variable {g:Gr} (wf:∀ k,k < g.length→∀ j∈par g k,j < k)
include wf
theorem re_lev {x:Nat}:∀ {k:Nat},k < g.length→x∈par (reached g) k→x≠k→lev g x < lev g k:=by
  intro k
  induction k using Nat.strongRecOn with
  | _ k ih =>
    intro hk m hne
    rcases (re_iff wf hk).mp m with q | ⟨j,hj,q⟩
    · exact absurd q hne
    · have h1:=lev_lt wf hk hj
      by_cases hxj:x=j
      · rw [hxj];exact h1
      · have:=wf k hk j hj
        have:=ih j this (by omega) q hxj
        omega
structure Rw (g:Gr) (one least n:Nat) (row seen wait s' w':List Nat):Prop where
  nd:s'.Nodup
  lt:∀ x∈s',x < n
  sub:∀ x∈seen,x∈s'
  fr:∀ x∈s',x∈seen∨x∈row
  ok:∀ p∈row,p≠one∧(lev g p≤least∨p∈s')
  w1:∀ x∈w',x∈wait∨x∈s'
  w2:∀ x∈s',x∈seen∨x∈w'
  w3:∀ x∈wait,x∈w'
  m:2 * (n - s'.length)+w'.length≤2 * (n - seen.length)+wait.length
  no:one∉seen→one∉s'
omit wf in
theorem ancRow_ok {one least n:Nat}:∀ (row seen wait:List Nat),seen.Nodup→(∀ x∈seen,x < n)→(∀ x∈row,x < n)→match ancRow g one least row seen wait with
    | none=>one∈row
    | some (s',w')=>Rw g one least n row seen wait s' w'
  | [],seen,wait,nd,lt,_=>⟨nd,lt,fun x m=>m,fun x m=>.inl m,fun p m=>(by cases m),fun x m=>.inl m,fun x m=>.inl m,fun x m=>m,Nat.le_refl _,fun q=>q⟩
  | p :: r,seen,wait,nd,lt,lr=>by
    have e:ancRow g one least (p :: r) seen wait=if p == one then none else if !seen.contains p && Nat.blt least (lev g p) then ancRow g one least r (p :: seen) (wait++[p]) else ancRow g one least r seen wait:=rfl
    rw [e]
    have hr:=fun x m=>lr x (List.mem_cons_of_mem _ m)
    have hp:=lr p (List.mem_cons_self ..)
    by_cases h1:p=one
    · rw [if_pos (by simpa using h1)]
      rw [h1];exact List.mem_cons_self ..
    · rw [if_neg (by simpa using h1)]
      cases h2:(!seen.contains p && Nat.blt least (lev g p)) with
      | true =>
        rw [Bool.and_eq_true] at h2
        have hps:p∉seen:=by simpa using h2.1
        simp only [if_true]
        have lt2:∀ x∈p :: seen,x < n:=fun x m=>by
          rcases mZ m with m | m
          · rw [m];exact hp
          · exact lt x m
        have nd2:(p :: seen).Nodup:=List.nodup_cons.mpr ⟨hps,nd⟩
        have ih:=ancRow_ok (one:=one) (least:=least) r (p :: seen) (wait++[p]) nd2 lt2 hr
        have hlen:=nodup_len n _ nd2 lt2
        cases hc:ancRow g one least r (p :: seen) (wait++[p]) with
        | none=>rw [hc] at ih;exact List.mem_cons_of_mem _ ih
        | some z =>
          obtain ⟨s',w'⟩:=z
          rw [hc] at ih
          have ih:Rw g one least n r (p :: seen) (wait++[p]) s' w':=ih
          have hps':=ih.sub p (List.mem_cons_self ..)
          refine ⟨ih.nd,ih.lt,fun x m=>ih.sub x (List.mem_cons_of_mem _ m),fun x m=>?_,fun x m=>?_,fun x m=>?_,fun x m=>?_,fun x m=>ih.w3 x (List.mem_append_left _ m),?_,fun q=>ih.no fun z=>?_⟩
          · rcases ih.fr x m with q | q
            · rcases mZ q with q | q
              · right;rw [q];exact List.mem_cons_self ..
              · exact .inl q
            · exact .inr (List.mem_cons_of_mem _ q)
          · rcases mZ m with q | q
            · rw [q];exact ⟨h1,.inr hps'⟩
            · exact ih.ok x q
          · rcases ih.w1 x m with q | q
            · rcases mA q with q | q
              · exact .inl q
              · rw [mS q];exact .inr hps'
            · exact .inr q
          · rcases ih.w2 x m with q | q
            · rcases mZ q with q | q
              · right;rw [q];exact ih.w3 p (by simp)
              · exact .inl q
            · exact .inr q
          · have:=ih.m
            simp at this hlen
            omega
          · rcases mZ z with z | z
            · exact h1 z.symm
            · exact q z
      | false =>
        simp only [Bool.false_eq_true,if_false]
        have ih:=ancRow_ok (one:=one) (least:=least) r seen wait nd lt hr
        cases hc:ancRow g one least r seen wait with
        | none=>rw [hc] at ih;exact List.mem_cons_of_mem _ ih
        | some z =>
          obtain ⟨s',w'⟩:=z
          rw [hc] at ih
          have ih:Rw g one least n r seen wait s' w':=ih
          refine ⟨ih.nd,ih.lt,ih.sub,fun x m=>(ih.fr x m).elim .inl fun q=>.inr (List.mem_cons_of_mem _ q),fun x m=>?_,ih.w1,ih.w2,ih.w3,ih.m,ih.no⟩
          rcases mZ m with q | q
          · rw [q]
            refine ⟨h1,?_⟩
            rw [Bool.and_eq_false_iff] at h2
            rcases h2 with h2 | h2
            · right
              exact ih.sub p (by simpa using h2)
            · refine .inl ?_
              have:¬ least < lev g p:=fun z=>by
                have:Nat.blt least (lev g p)=true:=by rw [Nat.blt_eq];exact z
                rw [h2] at this;cases this
              omega
          · exact ih.ok x q
theorem ancGo_ok {a b:Nat} (hb:b < g.length):∀ (f:Nat) (seen wait:List Nat),seen.Nodup→(∀ x∈seen,x∈par (reached g) b)→b∈seen→a∉seen→(∀ x∈wait,x∈seen)→(∀ x∈seen,x∉wait→∀ p∈par g x,p≠a∧(lev g p≤lev g a∨p∈seen))→2 * (g.length - seen.length)+wait.length < f →
    ancGo g a (lev g a) f seen wait=(par (reached g) b).contains a
  | 0,_,_,_,_,_,_,_,_,h=>absurd h (Nat.not_lt_zero _)
  | f+1,seen,wait,nd,hre,hbs,has,hw,hd,hf=>by
    have hlt:∀ x∈seen,x < g.length:=fun x m=>re_lt wf hb (hre x m)
    rcases List.eq_nil_or_concat wait with h0 | ⟨w,here,h0⟩
    · subst h0
      have e:ancGo g a (lev g a) (f+1) seen []=false:=rfl
      rw [e]
      have claim:∀ k,k∈seen→a∈par (reached g) k→False:=by
        intro k
        induction k using Nat.strongRecOn with
        | _ k ih =>
          intro mk ma
          have hk:=hlt k mk
          rcases (re_iff wf hk).mp ma with q | ⟨j,hj,q⟩
          · rw [q] at has;exact has mk
          · obtain ⟨z1,z2⟩:=hd k mk (by simp) j hj
            have hjk:=wf k hk j hj
            have:=re_lev wf (by omega) q (Ne.symm z1)
            rcases z2 with z2 | z2
            · omega
            · exact ih j hjk z2 q
      cases hc:(par (reached g) b).contains a with
      | false=>rfl
      | true=>exact (claim b hbs (by simpa using hc)).elim
    · have h0:wait=w++[here]:=by simpa using h0
      subst h0
      have e:ancGo g a (lev g a) (f+1) seen (w++[here])=match ancRow g a (lev g a) (par g here) seen w with
        | none=>true
        | some (seen,wait)=>ancGo g a (lev g a) f seen wait:=by
        have e1:∀ (x:List Nat),x≠[]→ancGo g a (lev g a) (f+1) seen x=match ancRow g a (lev g a) (par g (x.getD (x.length - 1) 0)) seen x.dropLast with
          | none=>true
          | some (seen,wait)=>ancGo g a (lev g a) f seen wait:=by
          intro x hx
          cases x with
          | nil=>exact absurd rfl hx
          | cons y t=>rfl
        rw [e1 _ (by simp)]
        have e2:(w++[here]).getD ((w++[here]).length - 1) 0=here:=by simp [List.getD]
        have e3:(w++[here]).dropLast=w:=by simp
        rw [e2,e3]
      rw [e]
      have mh:here∈seen:=hw here (by simp)
      have hh:=hlt here mh
      have rowlt:∀ x∈par g here,x < g.length:=fun x m=>by have:=wf here hh x m;omega
      have sp:=ancRow_ok (g:=g) (one:=a) (least:=lev g a) (par g here) seen w nd hlt rowlt
      cases hc:ancRow g a (lev g a) (par g here) seen w with
      | none =>
        rw [hc] at sp
        have:a∈par (reached g) b:=re_step wf hb (hre here mh) sp
        simp [this]
      | some z =>
        obtain ⟨s',w'⟩:=z
        rw [hc] at sp
        have sp:Rw g a (lev g a) g.length (par g here) seen w s' w':=sp
        refine ancGo_ok hb f s' w' sp.nd (fun x m=>?_) (sp.sub b hbs) (sp.no has) (fun x m=>?_) (fun x m nm p mp=>?_) (by have:=sp.m;simp at hf;omega)
        · rcases sp.fr x m with q | q
          · exact hre x q
          · exact re_step wf hb (hre here mh) q
        · rcases sp.w1 x m with q | q
          · exact sp.sub x (hw x (List.mem_append_left _ q))
          · exact q
        · have ms:x∈seen:=(sp.w2 x m).elim (fun q=>q) fun q=>absurd q nm
          by_cases hx:x=here
          · rw [hx] at mp;exact sp.ok p mp
          · have nw:x∉w++[here]:=fun q=>by
              rcases mA q with q | q
              · exact nm (sp.w3 x q)
              · exact hx (mS q)
            obtain ⟨z1,z2⟩:=hd x ms nw p mp
            exact ⟨z1,z2.elim .inl fun q=>.inr (sp.sub p q)⟩
theorem isAnc_eq {a b:Nat} (hn:g.length≤8) (ha:a < g.length) (hb:b < g.length):isAnc g a b=(par (reached g) b).contains a:=by
  unfold isAnc
  by_cases hab:a=b
  · rw [if_pos (by simpa using hab)]
    have:=re_self wf hb
    rw [hab]
    simp [this]
  · rw [if_neg (by simpa using hab)]
    cases hl:Nat.ble (lev g b) (lev g a) with
    | true =>
      simp only [if_true]
      have h1:lev g b≤lev g a:=by simpa [Nat.ble_eq] using hl
      cases hc:(par (reached g) b).contains a with
      | false=>rfl
      | true =>
        have:=re_lev wf hb (by simpa using hc) hab
        omega
    | false =>
      simp only [Bool.false_eq_true,if_false]
      refine ancGo_ok wf hb 40 [b] [b] (by simp) (fun x m=>?_) (by simp) (by simpa using hab) (fun x m=>m) (fun x m nm=>absurd m nm) (by simp;omega)
      rw [mS m];exact re_self wf hb
theorem pair_good {a b:Nat} (hn:g.length≤8) (ha:a < g.length) (hb:b < g.length):pairChk g (reached g) a b=true:=by
  have na:=srt_nodup (re_srt wf ha)
  have nb:=srt_nodup (re_srt wf hb)
  have hnd:((par (reached g) a).filter fun x=>(par (reached g) b).contains x).Nodup:=na.filter _
  have hcm:∀ x,x∈((par (reached g) a).filter fun x=>(par (reached g) b).contains x)↔x∈par (reached g) a∧x∈par (reached g) b:=fun x=>by
    rw [List.mem_filter];simp
  have m1:mergeBases g a b=isortN (bestP (reached g) ((par (reached g) a).filter fun x=>(par (reached g) b).contains x)):=by
    have:=best_eq (ks:=[a,b]) (common:=(par (reached g) a).filter fun x=>(par (reached g) b).contains x) wf hn (by simp) (fun k m=>by simp at m;rcases m with m | m<;>rw [m]<;>assumption) (fun x=>by rw [hcm];simp) hnd
    exact this
  have m2:mergeBases g b a=isortN (bestP (reached g) ((par (reached g) a).filter fun x=>(par (reached g) b).contains x)):=by
    have:=best_eq (ks:=[b,a]) (common:=(par (reached g) a).filter fun x=>(par (reached g) b).contains x) wf hn (by simp) (fun k m=>by simp at m;rcases m with m | m<;>rw [m]<;>assumption) (fun x=>by rw [hcm];simp [and_comm]) hnd
    exact this
  have hbb:∀ p∈[(a,1),(b,2)],p.1 < g.length∧p.2≠0:=fun p m=>by
    simp at m
    rcases m with m | m<;>rw [m]
    · exact ⟨ha,by show (1:Nat)≠0;decide⟩
    · exact ⟨hb,by show (2:Nat)≠0;decide⟩
  have F:=painted_fix (pf:=id) wf hn hbb
  have hbit:∀ x i,(vl (painted g id [(a,1),(b,2)]).2 x).testBit i=true↔(i=0∧x∈par (reached g) a)∨(i=1∧x∈par (reached g) b):=fun x i=>by
    rw [bit_reach wf F (fun p m=>(hbb p m).1) (fun m=>rfl) (g.length - x) x (Nat.le_refl _)]
    have t1:(1:Nat).testBit i=decide (0=i):=Nat.testBit_two_pow (n:=0)
    have t2:(2:Nat).testBit i=decide (1=i):=Nat.testBit_two_pow (n:=1)
    constructor
    · rintro ⟨y,m,q,w,z⟩
      simp at q
      rcases q with ⟨q1,q2⟩ | ⟨q1,q2⟩
      · rw [q2,t1] at w
        rw [q1] at z
        exact .inl ⟨by simpa using (of_decide_eq_true w).symm,z⟩
      · rw [q2,t2] at w
        rw [q1] at z
        exact .inr ⟨by simpa using (of_decide_eq_true w).symm,z⟩
    · rintro (⟨q,z⟩ | ⟨q,z⟩)
      · exact ⟨a,1,by simp,by rw [t1,q];rfl,z⟩
      · exact ⟨b,2,by simp,by rw [t2,q];rfl,z⟩
  have hab:aheadBehind g a b=((((painted g id [(a,1),(b,2)]).1.filter fun k=>look (painted g id [(a,1),(b,2)]).2 k == some 1)).length,(((painted g id [(a,1),(b,2)]).1.filter fun k=>look (painted g id [(a,1),(b,2)]).2 k == some 2)).length):=rfl
  generalize (painted g id [(a,1),(b,2)]).1=o at *
  generalize (painted g id [(a,1),(b,2)]).2=fl at *
  have look1:∀ (x m:Nat),m≠0→(look fl x=some m↔vl fl x=m):=fun x m hm=>by
    unfold vl
    cases hl:look fl x with
    | none=>simp;exact Ne.symm hm
    | some v=>simp
  have one:∀ x,look fl x=some 1↔x∈par (reached g) a∧x∉par (reached g) b:=fun x=>by
    rw [look1 x 1 (by decide)]
    constructor
    · intro q
      have h0:=hbit x 0
      have h1:=hbit x 1
      rw [q] at h0 h1
      have b0:(1:Nat).testBit 0=true:=rfl
      have b1:(1:Nat).testBit 1=false:=rfl
      rw [b0] at h0
      rw [b1] at h1
      simp at h0 h1
      exact ⟨h0,h1⟩
    · rintro ⟨q1,q2⟩
      apply Nat.eq_of_testBit_eq
      intro i
      have h:=hbit x i
      have t1:(1:Nat).testBit i=decide (0=i):=Nat.testBit_two_pow (n:=0)
      rw [t1]
      rw [Bool.eq_iff_iff,h]
      simp only [q1,q2,and_true,and_false,or_false,decide_eq_true_eq]
      exact eq_comm
  have two:∀ x,look fl x=some 2↔x∈par (reached g) b∧x∉par (reached g) a:=fun x=>by
    rw [look1 x 2 (by decide)]
    constructor
    · intro q
      have h0:=hbit x 0
      have h1:=hbit x 1
      rw [q] at h0 h1
      have b0:(2:Nat).testBit 0=false:=rfl
      have b1:(2:Nat).testBit 1=true:=rfl
      rw [b0] at h0
      rw [b1] at h1
      simp at h0 h1
      exact ⟨h1,h0⟩
    · rintro ⟨q1,q2⟩
      apply Nat.eq_of_testBit_eq
      intro i
      have h:=hbit x i
      have t1:(2:Nat).testBit i=decide (1=i):=Nat.testBit_two_pow (n:=1)
      rw [t1]
      rw [Bool.eq_iff_iff,h]
      simp only [q1,q2,and_true,and_false,false_or,decide_eq_true_eq]
      exact eq_comm
  have cnt:∀ (m:Nat) (l:List Nat),l.Nodup→(∀ x,look fl x=some m↔x∈l)→(o.filter fun k=>look fl k == some m).length=l.length:=fun m l nl hl=>by
    refine List.Perm.length_eq ((List.perm_ext_iff_of_nodup (F.nd.filter _) nl).mpr fun x=>?_)
    rw [List.mem_filter,beq_iff_eq,hl x]
    constructor
    · exact fun q=>q.2
    · intro q
      refine ⟨(F.keys x).mp ?_,q⟩
      rw [(hl x).mpr q];rfl
  have c1:=cnt 1 ((par (reached g) a).filter fun x=>!(par (reached g) b).contains x) (na.filter _) fun x=>by rw [one,List.mem_filter];simp
  have c2:=cnt 2 ((par (reached g) b).filter fun x=>!(par (reached g) a).contains x) (nb.filter _) fun x=>by rw [two,List.mem_filter];simp
  rw [c1,c2] at hab
  have ia:=isAnc_eq wf hn ha hb
  have ib:=isAnc_eq wf hn hb ha
  unfold pairChk
  have pa:(reached g).getD a []=par (reached g) a:=rfl
  have pb:(reached g).getD b []=par (reached g) b:=rfl
  rw [pa,pb]
  simp only [m1,m2,ia,ib,hab,beq_self_eq_true,Bool.and_self]
theorem lot_good {lot:List Nat} (hn:g.length≤8) (hl:∀ x∈lot,x < g.length):lotChk g (reached g) lot=true:=by
  have h1:mergeMany g lot=isortN (bestP (reached g) ((List.range g.length).filter fun x=>!lot.isEmpty && (lot.filter fun k=>!(par (reached g) k).contains x) == [])):=by
    cases hlot:lot with
    | nil =>
      have:((List.range g.length).filter fun x=>!([]:List Nat).isEmpty && (([]:List Nat).filter fun k=>!(par (reached g) k).contains x) == [])=[]:=by simp
      rw [this];rfl
    | cons z t =>
      have hm:mergeMany g (z :: t)=bestCommon g ((z :: t).map fun k=>[k]):=rfl
      rw [hm]
      rw [hlot] at hl
      refine best_eq wf hn (by simp) hl (fun x=>?_) (List.nodup_range.filter _)
      rw [List.mem_filter,Bool.and_eq_true,beq_iff_eq,List.filter_eq_nil_iff]
      constructor
      · rintro ⟨_,_,q⟩ k mk
        have:=q k mk
        simpa using this
      · intro q
        refine ⟨List.mem_range.mpr (re_lt wf (hl z (List.mem_cons_self ..)) (q z (List.mem_cons_self ..))),rfl,fun k mk=>?_⟩
        have:=q k mk
        simpa using this
  have h2:independent g lot=(onceN [] lot).filter fun k=>((onceN [] lot).filter fun j=>j != k && (par (reached g) j).contains k) == []:=by
    have hind:independent g lot=(onceN [] lot).filter fun k=>(look (painted g id (begP g (onceN [] lot))).2 k).isNone:=rfl
    rw [hind]
    have hom:∀ x∈onceN [] lot,x < g.length:=fun x m=>hl x (onceN_mem lot [] x m)
    generalize onceN [] lot=ks at *
    have hbi:∀ y m,(y,m)∈begP g ks↔m=1∧∃ k∈ks,y∈par g k:=fun y m=>by
      unfold begP
      rw [List.mem_flatMap]
      constructor
      · rintro ⟨k,mk,q⟩
        obtain ⟨p,hp,e⟩:=List.mem_map.mp q
        cases e
        exact ⟨rfl,k,mk,hp⟩
      · rintro ⟨rfl,k,mk,q⟩
        exact ⟨k,mk,List.mem_map.mpr ⟨y,q,rfl⟩⟩
    have hbb:∀ p∈begP g ks,p.1 < g.length∧p.2≠0:=fun p m=>by
      obtain ⟨y,v⟩:=p
      obtain ⟨rfl,k,mk,q⟩:=(hbi y v).mp m
      have hk:=hom k mk
      have:=wf k hk y q
      exact ⟨by dsimp only;omega,by dsimp only;omega⟩
    have F:=painted_fix (pf:=id) wf hn hbb
    have hbit:∀ x,(vl (painted g id (begP g ks)).2 x).testBit 0=true↔∃ j∈ks,j≠x∧x∈par (reached g) j:=fun x=>by
      rw [bit_reach wf F (fun p m=>(hbb p m).1) (fun m=>rfl) (g.length - x) x (Nat.le_refl _)]
      constructor
      · rintro ⟨y,m,q,w,z⟩
        obtain ⟨_,k,mk,q⟩:=(hbi y m).mp q
        have hk:=hom k mk
        have hyk:=wf k hk y q
        have:=re_le wf (by omega) z
        exact ⟨k,mk,by omega,(re_iff wf hk).mpr (.inr ⟨y,q,z⟩)⟩
      · rintro ⟨j,mj,hne,z⟩
        rcases (re_iff wf (hom j mj)).mp z with q | ⟨y,hy,q⟩
        · exact absurd q.symm hne
        · exact ⟨y,1,(hbi y 1).mpr ⟨rfl,j,mj,hy⟩,rfl,q⟩
    have hhi:∀ x i,i≠0→(vl (painted g id (begP g ks)).2 x).testBit i=false:=fun x i hi=>by
      rw [Bool.eq_false_iff]
      intro q
      obtain ⟨y,m,q,w,z⟩:=(bit_reach wf F (fun p m=>(hbb p m).1) (fun m=>rfl) (g.length - x) x (Nat.le_refl _)).mp q
      obtain ⟨rfl,_⟩:=(hbi y m).mp q
      have t1:(1:Nat).testBit i=decide (0=i):=Nat.testBit_two_pow (n:=0)
      rw [t1] at w
      exact hi (of_decide_eq_true w).symm
    generalize (painted g id (begP g ks)).2=fl at *
    refine List.filter_congr fun k mk=>?_
    rw [Bool.eq_iff_iff]
    have e2:((ks.filter fun j=>j != k && (par (reached g) j).contains k) == [])=true↔¬ ∃ j∈ks,j≠k∧k∈par (reached g) j:=by
      rw [beq_iff_eq,List.filter_eq_nil_iff]
      constructor
      · rintro q ⟨y,my,hne,z⟩
        refine q y my ?_
        rw [Bool.and_eq_true]
        exact ⟨by simpa using hne,by simpa using z⟩
      · intro q y my z
        rw [Bool.and_eq_true] at z
        exact q ⟨y,my,by simpa using z.1,by simpa using z.2⟩
    rw [e2,← hbit k]
    have hz:vl fl k=0↔¬ (vl fl k).testBit 0=true:=by
      constructor
      · intro q;rw [q];simp
      · intro q
        apply Nat.eq_of_testBit_eq
        intro i
        rw [Nat.zero_testBit]
        by_cases hi:i=0
        · subst hi;simpa using q
        · exact hhi k i hi
    rw [← hz]
    unfold vl
    cases hlk:look fl k with
    | none=>simp
    | some v=>simpa using F.nz k v hlk
  unfold lotChk
  simp only
  rw [Bool.and_eq_true,beq_iff_eq,beq_iff_eq]
  exact ⟨h1,h2⟩
end
theorem good_all {g:Gr} (h:wfB g=true) (h2:2≤g.length) (h5:g.length≤5):Good g:=by
  have wf:∀ k,k < g.length→∀ j∈par g k,j < k:=fun k hk=>(wf_of h hk).1
  refine ⟨fun a b ha hb=>pair_good wf (Nat.le_trans h5 (by decide)) ha hb,fun lot _ hl=>lot_good wf (Nat.le_trans h5 (by decide)) hl,fun bd _ _ hbd x hx=>?_,fun x hx=>?_,?_⟩
  · have hl:=cut_len g bd
    refine pair_good (fun k hk=>?_) (hl.symm▸Nat.le_trans h5 (by decide)) (hl.symm▸Nat.sub_lt (Nat.lt_of_lt_of_le (by decide) h2) (by decide)) (hl.symm▸hx)
    rw [hl] at hk
    rw [cut_par hk]
    split
    · intro j m;cases m
    · exact wf k hk
  all_goals
    have hw2:wfB (g++[[g.length - 1,g.length - 2]])=true:=wfB_push h (fun j m=>by simp at m;omega) (by simp)
    have hl2:(g++[[g.length - 1,g.length - 2]]).length=g.length+1:=by simp
    have wf2:∀ k,k < (g++[[g.length - 1,g.length - 2]]).length→∀ j∈par (g++[[g.length - 1,g.length - 2]]) k,j < k:=fun k hk=>(wf_of hw2 hk).1
  · exact pair_good wf2 (hl2.symm▸Nat.le_trans (Nat.succ_le_succ h5) (by decide)) (hl2.symm▸Nat.lt_succ_self _) (hl2.symm▸Nat.lt_succ_of_lt hx)
  · have hp:par (g++[[g.length - 1,g.length - 2]]) g.length=[g.length - 1,g.length - 2]:=par_app_eq
    generalize g++[[g.length - 1,g.length - 2]]=g2 at *
    have hN:g.length < g2.length:=hl2.symm▸Nat.lt_succ_self _
    have hM:g.length - 2 < g2.length:=Nat.lt_of_le_of_lt (Nat.sub_le ..) hN
    have m0:g.length - 2∈par (reached g2) g.length:=(re_iff wf2 hN).mpr (.inr ⟨g.length - 2,by rw [hp];simp,re_self wf2 hM⟩)
    have hb:=best_eq (g:=g2) (ks:=[g.length,g.length - 2]) (common:=par (reached g2) (g.length - 2)) wf2 (hl2.symm▸Nat.le_trans (Nat.succ_le_succ h5) (by decide)) (by simp) (fun k m=>by simp at m;omega) (fun x=>?_) (srt_nodup (re_srt wf2 hM))
    · have e:mergeBases g2 g.length (g.length - 2)=bestCommon g2 ([g.length,g.length - 2].map fun k=>[k]):=rfl
      rw [e,hb]
      refine srt_eq (isortN_srt ((srt_nodup (re_srt wf2 hM)).filter _)) (by simp) fun x=>?_
      rw [isortN_iff]
      unfold bestP
      rw [List.mem_filter,beq_iff_eq,List.filter_eq_nil_iff,List.mem_singleton]
      constructor
      · rintro ⟨q1,q2⟩
        by_cases hx:x=g.length - 2
        · exact hx
        · refine absurd ?_ (q2 (g.length - 2) (re_self wf2 hM))
          rw [Bool.and_eq_true]
          exact ⟨by simpa using Ne.symm hx,by simpa [par] using q1⟩
      · rintro rfl
        refine ⟨re_self wf2 hM,fun y my z=>?_⟩
        rw [Bool.and_eq_true] at z
        have hy:=re_le wf2 hM my
        have hyn:=re_lt wf2 hM my
        have z2:g.length - 2∈par (reached g2) y:=by simpa [par] using z.2
        have:=re_le wf2 hyn z2
        have z1:y≠g.length - 2:=by simpa using z.1
        omega
    · simp only [List.mem_cons,List.not_mem_nil,or_false]
      constructor
      · rintro q k (rfl | rfl)
        · exact re_trans wf2 hN m0 q
        · exact q
      · exact fun q=>q _ (.inr rfl)
theorem fam_good {g:Gr} (h:Fam g):Good g:=good_all h.wfb h.len.1 h.len.2
end Mine.Pl
end
section
open PySem PySem.W PyProof.Rows PySem.Calls PySem.SeqAt
namespace Mine
noncomputable def Cls.addr:Cls→Addr
  | .CountingHasher=>108 | .RankQueue=>157 | .WalkedCommit=>178 | .Walk=>519 | .Person=>560 | .Tree=>602 | .Commit=>658 | .MemoryStore=>806
noncomputable def Fd.nm:Fd→String
  | .rows=>"rows" | .came=>"came" | .size=>"size" | .known=>"known" | .hasher=>"hasher" | .kept=>"kept" | .store=>"store" | .shallow=>"shallow" | .levels=>"levels" | .parents=>"parents"
  | .tree=>"tree" | .date=>"date" | .name=>"name" | .email=>"email" | .when=>"when" | .zone=>"zone" | .entries=>"entries" | .author=>"author" | .committer=>"committer" | .extra=>"extra" | .message=>"message"
noncomputable def Fd.str (f:Fd):PySem.Str:=PySem.Str.ofString f.nm
noncomputable def Fn.addr (f:Fn):Addr:=nthD (0:Nat) [71,78,83,98,105,126,133,140,147,154,175,189,196,219,226,233,240,252,259,271,290,297,302,307,312,550,557,585,592,613,620,641,648,669,683,690,704,711,746,767,788,815,822,829,836,841,848,855,860,865,870,875,880,885] f
noncomputable def tabA:Addr:=287
noncomputable def tabC:Addr:=289
noncomputable def toStr (s:List Nat):PySem.Str:=⟨s.toArray⟩
noncomputable def Frozen (o:Obj):Prop:=match o.data with
  | .seq _ _=>o.cls = .type "tuple"
  | .func _=>True
  | .fields _=>o.cls = .type "code"
  | .plain=>o.dict.isSome=true
  | _=>False
structure CloFd (fd:FuncData) (ok:FuncData→Bool):Prop where
  ok:ok fd=true
  apart:fd.closure.Pairwise fun x y=>x.2≠y.2
  only:∀ x∈fd.closure,fd.closure.lookup (PySem.Str.ofString "stale")=some x.2∨fd.closure.lookup (PySem.Str.ofString "whole")=some x.2
structure Ctx where
  h₀:Heap
  look:FuncData→Bool
  w:World
  sysm:∃ m,h₀.get? sysModules=some m
inductive All2 {α β:Type} (R:α→β→Prop):List α→List β→Prop
  | nil:All2 R [] []
  | cons {a b l m}:R a b→All2 R l m→All2 R (a :: l) (b :: m)
namespace All2
section
variable {α β:Type}{R:α→β→Prop}{l l':List α}{m m':List β}
theorem len (r:All2 R l m):l.length=m.length:=by
  induction r with
  | nil=>rfl
  | cons _ _ ih=>exact congrArg (·+1) ih
theorem imp {S:α→β→Prop} (f:∀ a b,R a b→S a b) (r:All2 R l m):All2 S l m:=by
  induction r with
  | nil=>exact .nil
  | cons h _ ih=>exact .cons (f _ _ h) ih
theorem swap (r:All2 R l m):All2 (fun b a=>R a b) m l:=by
  induction r with
  | nil=>exact .nil
  | cons h _ ih=>exact .cons h ih
theorem get (r:All2 R l m) {C:Prop}:∀ {i:Nat}{a:α},l[i]?=some a→(∀ b,m[i]?=some b→R a b→C)→C:=by
  induction r with
  | nil=>exact fun e=>nomatch e
  | cons h _ ih =>
    intro i a e f
    cases i with
    | zero=>exact f _ rfl (Option.some.inj e▸h)
    | succ i=>exact ih e f
theorem app (r:All2 R l m) (q:All2 R l' m'):All2 R (l++l') (m++m'):=by
  induction r with
  | nil=>exact q
  | cons h _ ih=>exact .cons h ih
theorem take (r:All2 R l m):∀ n,All2 R (l.take n) (m.take n):=by
  induction r with
  | nil=>exact fun n=>by rw [List.take_nil,List.take_nil];exact .nil
  | cons h _ ih =>
    intro n
    cases n with
    | zero=>exact .nil
    | succ n=>exact .cons h (ih n)
theorem rev (r:All2 R l m):All2 R l.reverse m.reverse:=by
  induction r with
  | nil=>exact .nil
  | cons h _ ih=>rw [List.reverse_cons,List.reverse_cons];exact ih.app (.cons h .nil)
theorem set {a b} (h:R a b) (r:All2 R l m):∀ i,All2 R (l.set i a) (m.set i b):=by
  induction r with
  | nil=>exact fun _=>.nil
  | cons h' q ih =>
    intro i
    cases i with
    | zero=>exact .cons h q
    | succ i=>exact .cons h' (ih i)
theorem erase (r:All2 R l m):∀ i,All2 R (l.eraseIdx i) (m.eraseIdx i):=by
  induction r with
  | nil=>exact fun _=>.nil
  | cons h' q ih =>
    intro i
    cases i with
    | zero=>exact q
    | succ i=>exact .cons h' (ih i)
theorem head {a}{C:List β→Prop} (r:All2 R (a :: l) m) (f:∀ b m,R a b→All2 R l m→C (b :: m)):C m:=by
  cases r with
  | cons h q=>exact f _ _ h q
theorem none {C:List β→Prop} (r:All2 R [] m) (f:C []):C m:=by
  cases r with
  | nil=>exact f
theorem one {a}{C:List β→Prop} (r:All2 R [a] m) (f:∀ b,R a b→C [b]):C m:=r.head fun b _ h q=>q.none (C:=fun m=>C (b :: m)) (f b h)
theorem two {a a'}{C:List β→Prop} (r:All2 R [a,a'] m) (f:∀ b b',R a b→R a' b'→C [b,b']):C m:=r.head fun b _ h q=>q.one (C:=fun m=>C (b :: m)) fun b' h'=>f b b' h h'
end
end All2
noncomputable def At (h:Heap) (a:Addr) (P:Obj→Prop):Prop:=∃ o,h.get? a=some o∧P o
noncomputable def isFunc (fd:FuncData) (o:Obj):Prop:=o.cls = .type "function"∧o.data = .func fd
noncomputable def isCode (q:PySem.Str) (o:Obj):Prop:=o.cls = .type "code"∧∃ vs,o.data = .fields vs∧∃ t,vs[1]?=some (.str q t)
structure CloAt (G:Ctx) (ρ:List Addr) (h:Heap) (cells:List Nat) (a:Addr) (fd:FuncData):Prop where
  fn:At h a (isFunc fd)
  good:CloFd fd G.look
  cls:All2 (fun i n=>∃ c,ρ[i]?=some c∧fd.closure.lookup (PySem.Str.ofString n)=some c) cells ["stale","whole"]
  code:∃ c,fd.code = .ref c∧At h c (isCode fd.qualname)∧c∉ρ
  off:a∉ρ
noncomputable abbrev tupObj (items:Array Value) (n:Nat):Obj:={ cls:=.type "tuple",data:=.seq items n }
inductive VRel (G:Ctx) (ρ:List Addr) (h:Heap):V→Value→Prop
  | none:VRel G ρ h .none .none
  | bool (b:Bool):VRel G ρ h (.bool b) (.bool b)
  | int (i:Int) (t:Tok):VRel G ρ h (.int i) (.int i t)
  | str (s:List Nat) (t:Tok):VRel G ρ h (.str s) (.str (toStr s) t)
  | bytes (b:List UInt8) (t:Tok):VRel G ρ h (.bytes b) (.bytes b.toArray t)
  | tup {vs:List V}{a:Addr}{us:List Value}{n:Nat}:h.get? a=some (tupObj us.toArray n)→a∉ρ→All2 (VRel G ρ h) vs us→VRel G ρ h (.tup vs) (.ref a)
  | flist {vs:List V}{a:Addr}{us:List Value}:G.h₀.IsList a us.toArray→(∀ o,G.h₀.get? a=some o→h.get? a=some o)→a∉ρ→All2 (VRel G ρ h) vs us→VRel G ρ h (.flist vs) (.ref a)
  | ref {i:Nat}{a:Addr}:ρ[i]?=some a→VRel G ρ h (.ref i) (.ref a)
  | inst {c:Cls}{i:Nat}{a d:Addr}{sl:Array (Option Value)}:h.get? a=some ⟨.ref c.addr,some d,.plain,sl⟩→ρ[i]?=some d→a∉ρ→VRel G ρ h (.inst c i) (.ref a)
  | fn (f:Fn):VRel G ρ h (.fn f) (.ref f.addr)
  | clo {cells:List Nat}{a:Addr}{fd:FuncData}:CloAt G ρ h cells a fd→VRel G ρ h (.clo cells) (.ref a)
noncomputable def Fix (G:Ctx) (a:Addr) (o:Obj):Prop:=Frozen o∨G.h₀.get? a=some o
structure Later (G:Ctx) (ρ:List Addr) (h:Heap) (ρ':List Addr) (h':Heap):Prop where
  ext:∀ (i:Nat) (a:Addr),ρ[i]?=some a→ρ'[i]?=some a
  fix:∀ a o,h.get? a=some o→Fix G a o→a∉ρ→h'.get? a=some o∧a∉ρ'
theorem frozen_tup {o:Obj}{xs n} (h:o.cls = .type "tuple") (d:o.data = .seq xs n):Frozen o:=by unfold Frozen;rw [d];exact h
theorem frozen_fn {o:Obj}{fd} (d:isFunc fd o):Frozen o:=by unfold Frozen;rw [d.2];trivial
theorem frozen_code {o:Obj}{q} (d:isCode q o):Frozen o:=d.2.elim fun _ e=>by unfold Frozen;rw [e.1];exact d.1
theorem frozen_inst {c:Value}{d:Addr}{sl}:Frozen ⟨c,some d,.plain,sl⟩:=rfl
section
variable {G:Ctx}{ρ ρ':List Addr}{h h':Heap}
theorem Later.at {a:Addr}{P:Obj→Prop} (L:Later G ρ h ρ' h') (f:∀ o,P o→Frozen o) (t:At h a P) (n:a∉ρ):At h' a P∧a∉ρ' :=
  t.elim fun o e=>(L.fix a o e.1 (.inl (f o e.2)) n).imp (fun z=>⟨o,z,e.2⟩) id
theorem tupObj_is {a:Addr}{us:Array Value}{n:Nat} (e:h.get? a=some (tupObj us n)):h.IsTuple a us:=⟨_,e,rfl,n,rfl⟩
theorem CloAt.later {cells a fd} (L:Later G ρ h ρ' h') (c:CloAt G ρ h cells a fd):CloAt G ρ' h' cells a fd :=
  ⟨(L.at (fun _=>frozen_fn) c.fn c.off).1,c.good,c.cls.imp fun _ _ e=>e.imp fun _ e=>⟨L.ext _ _ e.1,e.2⟩,c.code.imp fun _ e=>⟨e.1,L.at (fun _=>frozen_code) e.2.1 e.2.2⟩,(L.at (fun _=>frozen_fn) c.fn c.off).2⟩
theorem VRel.later {v:V}{x:Value} (L:Later G ρ h ρ' h') (r:VRel G ρ h v x):VRel G ρ' h' v x :=
  VRel.rec (motive_1:=fun v x _=>VRel G ρ' h' v x) (motive_2:=fun vs us _=>All2 (VRel G ρ' h') vs us)
    .none .bool .int .str .bytes (fun t n _ ih=>.tup (L.fix _ _ t (.inl rfl) n).1 (L.fix _ _ t (.inl rfl) n).2 ih)
    (fun t k n _ ih=>.flist t (fun o e=>(L.fix _ o (k o e) (.inr e) n).1) (let ⟨o,e,_⟩:=t;(L.fix _ o (k o e) (.inr e) n).2) ih)
    (fun e=>.ref (L.ext _ _ e)) (fun e k n=>.inst (L.fix _ _ e (.inl frozen_inst) n).1 (L.ext _ _ k) (L.fix _ _ e (.inl frozen_inst) n).2) .fn (fun c=>.clo (c.later L)) .nil (fun _ _ a b=>.cons a b) r
theorem Later.all {vs:List V}{us:List Value} (L:Later G ρ h ρ' h') (r:All2 (VRel G ρ h) vs us):All2 (VRel G ρ' h') vs us:=r.imp fun _ _=>VRel.later L
theorem Later.refl:Later G ρ h ρ h:=⟨fun _ _ e=>e,fun _ _ e _ n=>⟨e,n⟩⟩
theorem Later.trans {ρ₁ ρ₂:List Addr}{h₁ h₂:Heap} (a:Later G ρ h ρ₁ h₁) (b:Later G ρ₁ h₁ ρ₂ h₂):Later G ρ h ρ₂ h₂ :=
  ⟨fun i x e=>b.ext i x (a.ext i x e),fun x o e f n=>b.fix x o (a.fix x o e f n).1 f (a.fix x o e f n).2⟩
end
section
variable {G:Ctx}{ρ:List Addr}{h:Heap}{v:V}{x:Value}{C:Value→Prop}
variable (G ρ h C) in
noncomputable def Sees:V→Prop
  | .none=>C .none
  | .bool b=>C (.bool b)
  | .int i=>∀ t,C (.int i t)
  | .str s=>∀ t,C (.str (toStr s) t)
  | .bytes b=>∀ t,C (.bytes b.toArray t)
  | .tup vs=>∀ a us n,h.get? a=some (tupObj (List.toArray us) n)→a∉ρ→All2 (VRel G ρ h) vs us→C (.ref a)
  | .flist vs=>∀ a us,h.IsList a (List.toArray us)→All2 (VRel G ρ h) vs us→C (.ref a)
  | .ref i=>∀ a,ρ[i]?=some a→C (.ref a)
  | .inst c i=>∀ a d sl,h.get? a=some ⟨.ref c.addr,some d,.plain,sl⟩→ρ[i]?=some d→C (.ref a)
  | .fn f=>C (.ref f.addr)
  | .clo cells=>∀ a fd,CloAt G ρ h cells a fd→C (.ref a)
  | .cel _=>True
theorem VRel.sees (r:VRel G ρ h v x) (f:Sees G ρ h C v):C x :=
  VRel.casesOn (motive_1:=fun v x _=>Sees G ρ h C v→C x) r id (fun _=>id) (fun _ _ f=>f _) (fun _ _ f=>f _) (fun _ _ f=>f _) (fun a b c f=>f _ _ _ a b c) (fun t k n q f=>f _ _ (t.imp fun _ t=>⟨k _ t.1,t.2⟩) q) (fun a f=>f _ a) (fun a b c f=>f _ _ _ a b) (fun _=>id) (fun a f=>f _ _ a) f
theorem VRel.onInt {k:Int→Prop} (r:VRel G ρ h v x) (e:v.onInt k) (f:∀ i t,k i→C (.int i t)):C x :=
  r.sees (by cases v<;>first | exact e.elim | exact fun _=>f _ _ e)
theorem VRel.onStr {k:List Nat→Prop} (r:VRel G ρ h v x) (e:v.onStr k) (f:∀ i t,k i→C (.str (toStr i) t)):C x :=
  r.sees (by cases v<;>first | exact e.elim | exact fun _=>f _ _ e)
theorem VRel.onBytes {k:List UInt8→Prop} (r:VRel G ρ h v x) (e:v.onBytes k) (f:∀ i t,k i→C (.bytes i.toArray t)):C x :=
  r.sees (by cases v<;>first | exact e.elim | exact fun _=>f _ _ e)
theorem VRel.onBool {k:Bool→Prop} (r:VRel G ρ h v x) (e:v.onBool k) (f:∀ i,k i→C (.bool i)):C x :=
  r.sees (by cases v<;>first | exact e.elim | exact f _ e)
theorem VRel.onRef {k:Nat→Prop} (r:VRel G ρ h v x) (e:v.onRef k) (f:∀ i a,k i→ρ[i]?=some a→C (.ref a)):C x :=
  r.sees (by cases v<;>first | exact e.elim | exact fun _=>f _ _ e)
theorem VRel.onTup {k:List V→Prop} (r:VRel G ρ h v x) (e:v.onTup k) (f:∀ vs a us n,k vs→h.get? a=some (tupObj us.toArray n)→a∉ρ→All2 (VRel G ρ h) vs us→C (.ref a)):C x :=
  r.sees (by cases v<;>first | exact e.elim | exact fun _ _ _=>f _ _ _ _ e)
theorem VRel.onInst {k:Cls→Nat→Prop} (r:VRel G ρ h v x) (e:v.onInst k) (f:∀ c i a d sl,k c i→h.get? a=some ⟨.ref c.addr,some d,.plain,sl⟩→ρ[i]?=some d→C (.ref a)):C x :=
  r.sees (by cases v<;>first | exact e.elim | exact fun _ _ _=>f _ _ _ _ _ e)
theorem VRel.isNone (r:VRel G ρ h .none x):x = .none:=r.sees (C:=(· = .none)) rfl
theorem VRel.isBool {b} (r:VRel G ρ h (.bool b) x):x = .bool b:=r.sees (C:=(· = .bool b)) rfl
theorem VRel.isFn {b} (r:VRel G ρ h (.fn b) x):x = .ref b.addr:=r.sees (C:=(· = .ref b.addr)) rfl
theorem VRel.noCel (r:VRel G ρ h v x):notCel v=true:=VRel.casesOn (motive_1:=fun v x _=>notCel v=true) r rfl (fun _=>rfl) (fun _ _=>rfl) (fun _ _=>rfl) (fun _ _=>rfl) (fun _ _ _=>rfl) (fun _ _ _ _=>rfl) (fun _=>rfl) (fun _ _ _=>rfl) (fun _=>rfl) (fun _=>rfl)
theorem VRel.handed (r:VRel G ρ h v x):handedIn x=true:=VRel.casesOn (motive_1:=fun v x _=>handedIn x=true) r rfl (fun _=>rfl) (fun _ _=>rfl) (fun _ _=>rfl) (fun _ _=>rfl) (fun _ _ _=>rfl) (fun _ _ _ _=>rfl) (fun _=>rfl) (fun _ _ _=>rfl) (fun _=>rfl) (fun _=>rfl)
end
noncomputable def KvR (G:Ctx) (ρ:List Addr) (h:Heap) {κ:Type} (f:κ→K):List (K × V)→List (κ × Value)→Prop:=All2 fun p q=>p.1=f q.1∧VRel G ρ h p.2 q.2
noncomputable def FlR (G:Ctx) (ρ:List Addr) (h:Heap):List (Fd × V)→List DictEntry→Prop:=All2 fun p e=>(∃ u,e.key = .str p.1.str u)∧VRel G ρ h p.2 e.val
noncomputable def kS (s:PySem.Str):K:=.s s.cps.toList
noncomputable def kI (i:Int):K:=.i i
noncomputable def kB (b:List UInt8):K:=.b b
noncomputable def DictIn (G:Ctx) (ρ:List Addr) (h:Heap) {κ:Type} [DecidableEq κ] (knd:KeyKind pw G.w κ) (f:κ→K) (kvs:List (K × V)) (a:Addr):Prop :=
  ∃ l,h.DictOf knd a l∧KvR G ρ h f kvs l
theorem kS_inj (a b:PySem.Str) (e:kS a=kS b):a=b:=by
  cases a;cases b;exact congrArg _ (Array.toList_inj.mp (K.s.inj e))
structure Knd (w:World) where
  κ:Type
  dec:DecidableEq κ
  knd:KeyKind pw w κ
  f:κ→K
  inj:∀ a b,f a=f b→a=b
noncomputable def knS (w:World):Knd w:=⟨_,inferInstance,strKind pw w,kS,kS_inj⟩
noncomputable def knI (w:World):Knd w:=⟨_,inferInstance,intKind pw w,kI,fun _ _=>K.i.inj⟩
noncomputable def knB (w:World):Knd w:=⟨_,inferInstance,bytesKind pw w,kB,fun _ _=>K.b.inj⟩
noncomputable abbrev Knd.In (G:Ctx) (ρ:List Addr) (h:Heap) (d:Knd G.w) (kvs:List (K × V)) (a:Addr):Prop:=@DictIn G ρ h d.κ d.dec d.knd d.f kvs a
noncomputable def DictR (G:Ctx) (ρ:List Addr) (h:Heap) (kvs:List (K × V)) (a:Addr):Prop:=(knS G.w).In G ρ h kvs a∨(knI G.w).In G ρ h kvs a∨(knB G.w).In G ρ h kvs a
noncomputable def pasL:Nat:=196
noncomputable def pasC:Nat:=8
noncomputable def pasO:PySem.Str:=PySem.Str.ofString "MergeBases.best_common.<locals>."
noncomputable def pasQ:PySem.Str:=PySem.Str.ofString "MergeBases.best_common.<locals>.passed"
noncomputable def TabR (ρ:List Addr) (h:Heap) (b:Bool) (a:Addr):Prop:=a=tabA ∧
  ((b=false∧h.get? a=some (tabObj #[])) ∨
   (b=true∧∃ cd:Addr,h.get? a=some (tabObj #[rawInt pasL,rawInt pasC,.ref cd])∧At h cd (isCode pasQ)∧cd∉ρ))
noncomputable abbrev lstObj (items:Array Value) (n:Nat):Obj:={ cls:=.type "list",data:=.seq items n }
noncomputable def ObjR (G:Ctx) (ρ:List Addr) (h:Heap):AObj→Addr→Prop
  | .list vs,a=>∃ us n,h.get? a=some (lstObj (List.toArray us) n)∧All2 (VRel G ρ h) vs us
  | .dict kvs,a=>DictR G ρ h kvs a
  | .flds c fs,a=>∃ es n,h.get? a=some (dictOf es n)∧FlR G ρ h fs es∧(∀ p,p∈fs→p.1∈fieldsOf c)
  | .cell v,a=>∃ x,h.IsCell a x∧match v with
    | none=>x=none
    | some v=>∃ y,x=some y∧VRel G ρ h v y
  | .tab b,a=>TabR ρ h b a
  | .buf,a=>∃ x y,h.get? a=some { cls:=.type "tuple",data:=.seq #[x,y] }
section
variable {G:Ctx}{ρ ρ':List Addr}{h h':Heap}
theorem KvR.later {κ:Type}{f:κ→K}{kvs l} (L:Later G ρ h ρ' h') (r:KvR G ρ h f kvs l):KvR G ρ' h' f kvs l:=All2.imp (fun _ _ q=>⟨q.1,q.2.later L⟩) r
theorem DictOf.same {pw:Program}{w:World}{κ:Type} [DecidableEq κ] {knd:KeyKind pw w κ}{l}{a:Addr} (he:h'.get? a=h.get? a) (d:h.DictOf knd a l):h'.DictOf knd a l :=
  d.imp fun _ d=>d.imp fun _ d=>d.imp fun _ d=>⟨he.trans d.1,d.2⟩
theorem DictOf.live {pw:Program}{w:World}{κ:Type} [DecidableEq κ] {knd:KeyKind pw w κ}{l}{a:Addr} (d:h.DictOf knd a l):∃ x,h.get? a=some x :=
  d.imp fun _ d=>d.elim fun _ d=>d.elim fun _ d=>d.1
theorem DictIn.later {κ:Type} [DecidableEq κ] {knd:KeyKind pw G.w κ}{f:κ→K}{kvs a} (L:Later G ρ h ρ' h') (he:h'.get? a=h.get? a) (r:DictIn G ρ h knd f kvs a):DictIn G ρ' h' knd f kvs a :=
  r.imp fun _ r=>⟨DictOf.same he r.1,r.2.later L⟩
theorem DictIn.live {κ:Type} [DecidableEq κ] {knd:KeyKind pw G.w κ}{f:κ→K}{kvs a} (r:DictIn G ρ h knd f kvs a):∃ x,h.get? a=some x :=
  r.elim fun _ r=>DictOf.live r.1
theorem Knd.later {d:Knd G.w}{kvs a} (L:Later G ρ h ρ' h') (he:h'.get? a=h.get? a) (r:d.In G ρ h kvs a):d.In G ρ' h' kvs a:=@DictIn.later _ _ _ _ _ _ d.dec _ _ _ _ L he r
theorem Knd.live {d:Knd G.w}{kvs a} (r:d.In G ρ h kvs a):∃ x,h.get? a=some x:=@DictIn.live _ _ _ _ d.dec _ _ _ _ r
theorem ObjR.later {o:AObj}{a:Addr} (L:Later G ρ h ρ' h') (he:h'.get? a=h.get? a) (r:ObjR G ρ h o a):ObjR G ρ' h' o a:=by
  cases o with
  | list vs=>exact r.imp fun _ r=>r.imp fun _ r=>⟨he.trans r.1,L.all r.2⟩
  | dict kvs=>exact r.imp (Knd.later L he) (.imp (Knd.later L he) (Knd.later L he))
  | flds c fs=>exact r.imp fun _ r=>r.imp fun _ r=>⟨he.trans r.1,All2.imp (fun _ _ q=>⟨q.1,q.2.later L⟩) r.2.1,r.2.2⟩
  | cell v =>
    refine r.imp fun x r=>⟨r.1.imp fun o e=>⟨he.trans e.1,e.2⟩,?_⟩
    cases v with
    | none=>exact r.2
    | some v=>exact r.2.imp fun _ e=>⟨e.1,e.2.later L⟩
  | tab b=>exact ⟨r.1,r.2.imp (fun q=>⟨q.1,he.trans q.2⟩) fun q=>⟨q.1,q.2.imp fun _ e=>⟨he.trans e.1,L.at (fun _=>frozen_code) e.2.1 e.2.2⟩⟩⟩
  | buf=>exact r.imp fun _ r=>r.imp fun _ r=>he.trans r
theorem ObjR.live {o:AObj}{a:Addr} (r:ObjR G ρ h o a):∃ x,h.get? a=some x:=by
  cases o with
  | list vs=>exact r.elim fun _ r=>r.elim fun _ r=>⟨_,r.1⟩
  | dict kvs=>exact r.elim Knd.live fun r=>r.elim Knd.live Knd.live
  | flds c fs=>exact r.elim fun _ r=>r.elim fun _ r=>⟨_,r.1⟩
  | cell v=>exact r.elim fun _ r=>r.1.imp fun _ r=>r.1
  | tab b=>exact r.2.elim (fun q=>⟨_,q.2⟩) fun q=>q.2.elim fun _ q=>⟨_,q.1⟩
  | buf=>exact r.elim fun _ r=>r.elim fun _ r=>⟨_,r⟩
end
structure Sim (G:Ctx) (ρ:List Addr) (H:AH) (h:Heap):Prop where
  len:ρ.length=H.length
  nodup:ρ.Nodup
  objs:∀ (i:Nat) (o:AObj) (a:Addr),H[i]?=some o→ρ[i]?=some a→ObjR G ρ h o a
  base:∀ a o,G.h₀.get? a=some o→a≠tabA→h.get? a=some o
  apart:∀ a,a∈ρ→a=tabA∨G.h₀.get? a=none
  tab:tabA∈ρ
structure St (G:Ctx) where
  ρ:List Addr
  H:AH
  s:Shared
  sim:Sim G ρ H s.heap
noncomputable abbrev St.h {G:Ctx} (t:St G):Heap:=t.s.heap
noncomputable abbrev RV {G:Ctx} (t:St G):V→Value→Prop:=VRel G t.ρ t.s.heap
noncomputable abbrev RVs {G:Ctx} (t:St G):List V→List Value→Prop:=All2 (VRel G t.ρ t.s.heap)
section
variable {G:Ctx}{ρ:List Addr}{H:AH}{h h':Heap}
theorem Sim.at (S:Sim G ρ H h) {i:Nat}{a:Addr} (e:ρ[i]?=some a):∃ o,H[i]?=some o∧ObjR G ρ h o a :=
  have hi:i < H.length:=S.len▸(gS e).1
  ⟨_,List.getElem?_eq_getElem hi,S.objs i _ a (List.getElem?_eq_getElem hi) e⟩
theorem Sim.idx (S:Sim G ρ H h) {i j:Nat}{a:Addr} (e:ρ[i]?=some a) (f:ρ[j]?=some a):i=j :=
  (List.getElem_inj S.nodup).mp ((gS e).2.trans (gS f).2.symm)
theorem Sim.live (S:Sim G ρ H h) {a:Addr} (m:a∈ρ):∃ o,h.get? a=some o :=
  (List.mem_iff_getElem?.mp m).elim fun _ e=>(S.at e).elim fun _ e=>e.2.live
theorem Sim.free (S:Sim G ρ H h) {a:Addr} (e:h.get? a=none):a∉ρ:=fun m=>(S.live m).elim fun _ q=>nomatch e.symm.trans q
theorem Sim.free0 (S:Sim G ρ H h) {a:Addr} (e:h.get? a=none):G.h₀.get? a=none:=by
  cases q:G.h₀.get? a with
  | none=>rfl
  | some o=>exact nomatch e.symm.trans (S.base a o q fun z=>S.free e (z▸S.tab))
theorem Sim.mods (S:Sim G ρ H h) {a:Addr} (m:a∈ρ):(a == sysModules)=false:=by
  refine beq_eq_false_iff_ne.mpr fun q=>(S.apart a m).elim (fun z=>absurd (z.symm.trans q) (by decide)) fun z=>?_
  rw [q] at z
  exact G.sysm.elim fun _ e=>nomatch z.symm.trans e
theorem Sim.off (S:Sim G ρ H h) {a:Addr}{o} (m:a∈ρ) (e:G.h₀.get? a=some o):a=tabA:=(S.apart a m).resolve_right fun z=>nomatch z.symm.trans e
theorem Sim.make (S:Sim G ρ H h) {own:Addr→Prop}{l:List Addr}{H':AH}
    (k:∀ a o,h.get? a=some o→¬ own a→a∉ρ→h'.get? a=some o) (ho:∀ a o,own a→h.get? a=some o→¬ Fix G a o)
    (hl:∀ a,a∈l→a∉ρ∧G.h₀.get? a=none∧∀ o,h.get? a=some o→¬ Fix G a o) (nd:l.Nodup)
    (len:(ρ++l).length=H'.length) (objs:Later G ρ h (ρ++l) h'→∀ (i:Nat) o a,H'[i]?=some o→(ρ++l)[i]?=some a→ObjR G (ρ++l) h' o a) :
    Later G ρ h (ρ++l) h'∧Sim G (ρ++l) H' h' :=
  have L:Later G ρ h (ρ++l) h':=⟨fun i x e=>(List.getElem?_append_left (gS e).1).trans e,
    fun a o e f n=>⟨k a o e (fun q=>ho a o q e f) n,fun m=>(mA m).elim n fun m=>(hl a m).2.2 o e f⟩⟩
  ⟨L,len,List.nodup_append.mpr ⟨S.nodup,nd,fun _ hx y hy q=>(hl y hy).1 (q▸hx)⟩,objs L,
    fun a o e n=>have e':=S.base a o e n;k a o e' (fun q=>ho a o q e' (.inr e)) fun m=>n (S.off m e),
    fun a m=>(mA m).elim (S.apart a) fun m=>.inr (hl a m).2.1,List.mem_append_left _ S.tab⟩
end
structure Step {G:Ctx} (own:Addr→Prop) (t t':St G):Prop where
  later:Later G t.ρ t.h t'.ρ t'.h
  fresh:∀ a,a∈t'.ρ→a∈t.ρ∨t.h.get? a=none
  keep:∀ a o,t.h.get? a=some o→a∉t.ρ→¬ own a→t'.h.get? a=some o
  alive:∀ a o,t.h.get? a=some o→∃ o',t'.h.get? a=some o'
  rest:t'.s={ t.s with heap:=t'.h,toks:=t'.s.toks }
noncomputable def none':Addr→Prop:=fun _=>False
section
variable {G:Ctx}{own own':Addr→Prop}{t t₁ t₂:St G}
theorem Step.refl:Step own t t:=⟨.refl,fun _ m=>.inl m,fun _ _ e _ _=>e,fun _ o e=>⟨o,e⟩,rfl⟩
theorem Step.dead (a:Step own t t₁) {x:Addr} (h:t₁.h.get? x=none):t.h.get? x=none:=by
  cases e:t.h.get? x with
  | none=>rfl
  | some o=>exact (a.alive x o e).elim fun _ e'=>nomatch h.symm.trans e'
theorem Step.alone (st:Step own t t₁) {a:Addr}{o:Obj} (n:a∉t.ρ) (e:t.h.get? a=some o):a∉t₁.ρ:=fun m=>(st.fresh a m).elim n fun q=>nomatch q.symm.trans e
theorem Step.trans (a:Step own t t₁) (b:Step own t₁ t₂):Step own t t₂ where
  later:=a.later.trans b.later
  fresh x m:=(b.fresh x m).elim (a.fresh x) fun h=>.inr (a.dead h)
  keep x o e n k:=b.keep x o (a.keep x o e n k) (a.alone n e) k
  alive x o e:=(a.alive x o e).elim fun o' e'=>b.alive x o' e'
  rest:=by rw [b.rest,a.rest]
theorem Step.shed (a:Step own t t₁) (h:∀ x o,own x→t.h.get? x=some o→own' x):Step own' t t₁ :=
  ⟨a.later,a.fresh,fun x o e n k=>a.keep x o e n (fun q=>k (h x o q e)),a.alive,a.rest⟩
theorem Step.any (a:Step none' t t₁):Step own t t₁:=a.shed fun _ _ h=>h.elim
noncomputable def To {α β:Type} (R:St G→α→β→Prop) (t:St G) (K:α→AH→Prop) (Q:β→Shared→Prop):Prop :=
  ∀ t' v x,Step none' t t'→K v t'.H→R t' v x→Q x t'.s
noncomputable abbrev RU (_:St G) (_:Unit) (_:Unit):Prop:=True
noncomputable abbrev RE {α:Type} (_:St G) (a b:α):Prop:=a=b
section
variable {α β:Type}{R:St G→α→β→Prop}{K:α→AH→Prop}{Q:β→Shared→Prop}
theorem To.mk (hq:To R t K Q) {v x} (e:K v t.H) (r:R t v x):Q x t.s:=hq t v x .refl e r
theorem To.after (st:Step none' t t₁) (hq:To R t K Q):To R t₁ K Q:=fun t' v x st'=>hq t' v x (st.trans st')
end
noncomputable def St.grow (t:St G) {h':Heap} (k:∀ a o,t.h.get? a=some o→h'.get? a=some o) (tk:Nat):St G :=
  ⟨t.ρ,t.H,{ t.s with heap:=h',toks:=tk },(List.append_nil t.ρ▸(t.sim.make (own:=none') (l:=[]) (H':=t.H) (fun a o e _ _=>k a o e) (fun _ _ q=>q.elim) (fun _ m=>nomatch m) .nil (by rw [List.append_nil];exact t.sim.len)
    fun L i o a e f=>(t.sim.objs i o a e (List.append_nil t.ρ▸f)).later L ((t.sim.live (List.mem_of_getElem? (List.append_nil t.ρ▸f))).elim fun _ q=>(k _ _ q).trans q.symm)).2)⟩
theorem St.grown (t:St G) {h':Heap} (k:∀ a o,t.h.get? a=some o→h'.get? a=some o) (tk:Nat):Step own t (t.grow k tk) :=
  ⟨⟨fun _ _ e=>e,fun a o e _ n=>⟨k a o e,n⟩⟩,fun _ m=>.inl m,fun a o e _ _=>k a o e,fun a o e=>⟨o,k a o e⟩,rfl⟩
section
variable {α β:Type}{R:St G→α→β→Prop}{K:α→AH→Prop}{Q:β→Shared→Prop}{v:α}{x:β}{h':Heap}{tk:Nat}
theorem To.grown (hq:To R t K Q) (k:∀ a o,t.h.get? a=some o→h'.get? a=some o) (e:K v t.H) (hp:Later G t.ρ t.h t.ρ h'→R (t.grow k tk) v x):Q x { t.s with heap:=h',toks:=tk } :=
  hq (t.grow k tk) v x (t.grown k tk) e (hp (t.grown (own:=none') k tk).later)
theorem To.tok (hq:To R t K Q) (e:K v t.H) (hp:R (t.grow (fun _ _ q=>q) tk) v x):Q x { t.s with toks:=tk }:=hq.grown (h':=t.h) (fun _ _ q=>q) e fun _=>hp
end
theorem Sim.push {ρ:List Addr}{H:AH}{h h':Heap}{o:AObj}{a:Addr} (S:Sim G ρ H h) (L:Later G ρ h (ρ++[a]) h') (same:∀ b o,b∈ρ→h.get? b=some o→h'.get? b=some o) (R:ObjR G (ρ++[a]) h' o a) (i:Nat) (x:AObj) (b:Addr)
    (e:(H++[o])[i]?=some x) (f:(ρ++[a])[i]?=some b):ObjR G (ρ++[a]) h' x b:=by
  by_cases q:i < H.length
  · rw [List.getElem?_append_left q] at e
    rw [List.getElem?_append_left (S.len▸q)] at f
    have m:=List.mem_of_getElem? f
    exact (S.objs i x b e f).later L ((S.live m).elim fun _ q=>(same _ _ m q).trans q.symm)
  · have q:=Nat.not_lt.mp q
    rw [List.getElem?_append_right q] at e
    rw [List.getElem?_append_right (S.len▸q)] at f
    rw [mS (List.mem_of_getElem? e),mS (List.mem_of_getElem? f)]
    exact R
theorem St.newSim (t:St G) {o:AObj}{a:Addr}{h':Heap} (k:∀ a o,t.h.get? a=some o→h'.get? a=some o) (hn:t.h.get? a=none)
    (hr:Later G t.ρ t.h (t.ρ++[a]) h'→ObjR G (t.ρ++[a]) h' o a):Later G t.ρ t.h (t.ρ++[a]) h'∧Sim G (t.ρ++[a]) (t.H++[o]) h' :=
  have S:=t.sim
  S.make (own:=none') (fun a o e _ _=>k a o e) (fun _ _ q=>q.elim) (fun x m=>by rw [mS m];exact ⟨S.free hn,S.free0 hn,fun _ e=>nomatch hn.symm.trans e⟩) (List.pairwise_singleton _ a)
    (by rw [List.length_append,List.length_append,S.len];rfl) fun L=>S.push L (fun b o _ e=>k b o e) (hr L)
theorem St.enter {o:AObj}{a:Addr}{h':Heap}{tk:Nat} (st:Step none' t t₁) (hn:t.h.get? a=none) (na:a∉t₁.ρ) (nf:∀ o,t₁.h.get? a=some o→¬ Frozen o)
    (k:∀ b o,b≠a→t₁.h.get? b=some o→h'.get? b=some o) (hr:Later G t₁.ρ t₁.h (t₁.ρ++[a]) h'→ObjR G (t₁.ρ++[a]) h' o a):∃ t':St G,Step none' t t'∧t'.H=t₁.H++[o]∧t'.ρ=t₁.ρ++[a]∧t'.s={ t₁.s with heap:=h',toks:=tk }∧RV t' (.ref t₁.H.length) (.ref a)∧Later G t₁.ρ t₁.h t'.ρ t'.h:=by
  have S:=t₁.sim
  have z0:=t.sim.free0 hn
  have fx:∀ o,t₁.h.get? a=some o→¬ Fix G a o:=fun o e f=>f.elim (nf o e) fun f=>nomatch z0.symm.trans f
  have z:=S.make (own:=(·=a)) (h':=h') (l:=[a]) (H':=t₁.H++[o]) (fun b o e n _=>k b o n e) (fun b o q e=>by rw [q] at e ⊢;exact fx o e) (fun x m=>by rw [mS m];exact ⟨na,z0,fx⟩) (List.pairwise_singleton _ a)
    (by rw [List.length_append,List.length_append,S.len];rfl) fun L=>S.push L (fun b o m e=>k b o (fun q=>na (q▸m)) e) (hr L)
  have ne:∀ x o,t.h.get? x=some o→x≠a:=fun x o e q=>nomatch hn.symm.trans (show t.h.get? a=some o from q▸e)
  exact ⟨⟨_,_,{ t₁.s with heap:=h',toks:=tk },z.2⟩,⟨st.later.trans z.1,fun x m=>(mA m).elim (st.fresh x) fun m=>.inr (mS m▸hn),fun x o e n q=>k x o (ne x o e) (st.keep x o e n q),
    fun x o e=>(st.alive x o e).imp fun o' e'=>k x o' (ne x o e) e',congrArg (fun s:Shared=>{ s with heap:=h',toks:=tk }) st.rest⟩,rfl,rfl,rfl,.ref (S.len▸List.getElem?_concat_length),z.1⟩
theorem To.enter {K:V→AH→Prop}{Q:Value→Shared→Prop}{o:AObj}{a:Addr}{h':Heap}{tk:Nat} (hq:To RV t K Q) (st:Step none' t t₁) (hn:t.h.get? a=none) (na:a∉t₁.ρ) (nf:∀ o,t₁.h.get? a=some o→¬ Frozen o)
    (k:∀ b o,b≠a→t₁.h.get? b=some o→h'.get? b=some o) (hr:Later G t₁.ρ t₁.h (t₁.ρ++[a]) h'→ObjR G (t₁.ρ++[a]) h' o a) (e:K (.ref t₁.H.length) (t₁.H++[o])):Q (.ref a) { t₁.s with heap:=h',toks:=tk } :=
  (St.enter (tk:=tk) st hn na nf k hr).elim fun t' z=>z.2.2.2.1▸hq t' _ _ z.1 (z.2.1▸e) z.2.2.2.2.1
noncomputable def St.new (t:St G) {o:AObj}{a:Addr}{h':Heap} (k:∀ a o,t.h.get? a=some o→h'.get? a=some o) (hn:t.h.get? a=none)
    (hr:Later G t.ρ t.h (t.ρ++[a]) h'→ObjR G (t.ρ++[a]) h' o a) (tk:Nat):St G:=⟨t.ρ++[a],t.H++[o],{ t.s with heap:=h',toks:=tk },(t.newSim k hn hr).2⟩
theorem St.news (t:St G) {o:AObj}{a:Addr}{h':Heap} (k:∀ a o,t.h.get? a=some o→h'.get? a=some o) (hn:t.h.get? a=none)
    (hr:Later G t.ρ t.h (t.ρ++[a]) h'→ObjR G (t.ρ++[a]) h' o a) (tk:Nat):Step own t (t.new k hn hr tk) :=
  ⟨(t.newSim k hn hr).1,fun x m=>(mA m).imp id fun m=>by rw [mS m];exact hn,fun a o e _ _=>k a o e,fun a o e=>⟨o,k a o e⟩,rfl⟩
theorem ref_last (t:St G) {a:Addr}:(t.ρ++[a])[t.H.length]?=some a:=t.sim.len▸List.getElem?_concat_length
theorem To.fresh {β:Type}{R:St G→V→β→Prop}{K:V→AH→Prop}{Q:β→Shared→Prop}{v:V}{x:β}{o:AObj}{a:Addr}{h':Heap}{tk:Nat} (hq:To R t K Q) (k:∀ a o,t.h.get? a=some o→h'.get? a=some o) (hn:t.h.get? a=none)
    (hr:Later G t.ρ t.h (t.ρ++[a]) h'→ObjR G (t.ρ++[a]) h' o a) (e:K v (t.H++[o])) (hp:R (t.new k hn hr tk) v x):Q x { t.s with heap:=h',toks:=tk } :=
  hq (t.new k hn hr tk) v x (t.news k hn hr tk) e hp
theorem St.updSim (t:St G) {o:AObj}{a:Addr}{i:Nat}{h':Heap} (hi:t.ρ[i]?=some a) (k:∀ b o,b≠a→t.h.get? b=some o→h'.get? b=some o)
    (hr:Later G t.ρ t.h t.ρ h'→ObjR G t.ρ h' o a):Later G t.ρ t.h t.ρ h'∧Sim G t.ρ (t.H.set i o) h' :=
  have S:=t.sim
  have m:=List.mem_of_getElem? hi
  have L:Later G t.ρ t.h t.ρ h':=⟨fun _ _ e=>e,fun x o e _ n=>⟨k x o (fun q=>n (q▸m)) e,n⟩⟩
  ⟨L,by rw [List.length_set,S.len],S.nodup,fun j x b e f=>by
      by_cases q:j=i
      · subst q
        rw [hi] at f;cases f
        rw [List.getElem?_set_self (S.len▸(gS hi).1)] at e
        cases e;exact hr L
      · rw [List.getElem?_set_ne (Ne.symm q)] at e
        have hb:b≠a:=fun z=>q (S.idx f (z▸hi))
        exact (S.objs j x b e f).later L ((S.live (List.mem_of_getElem? f)).elim fun _ q=>(k _ _ hb q).trans q.symm),
    fun x o e n=>k x o (fun q=>n (S.off (q▸m) e)) (S.base x o e n),S.apart,S.tab⟩
noncomputable def St.upd (t:St G) {o:AObj}{a:Addr}{i:Nat}{h':Heap} (hi:t.ρ[i]?=some a) (k:∀ b o,b≠a→t.h.get? b=some o→h'.get? b=some o)
    (hr:Later G t.ρ t.h t.ρ h'→ObjR G t.ρ h' o a) (tk:Nat):St G:=⟨t.ρ,t.H.set i o,{ t.s with heap:=h',toks:=tk },(t.updSim hi k hr).2⟩
theorem St.upds (t:St G) {o:AObj}{a:Addr}{i:Nat}{h':Heap} (hi:t.ρ[i]?=some a) (k:∀ b o,b≠a→t.h.get? b=some o→h'.get? b=some o)
    (hr:Later G t.ρ t.h t.ρ h'→ObjR G t.ρ h' o a) (tk:Nat):Step own t (t.upd hi k hr tk) :=
  have z:=t.updSim hi k hr
  ⟨z.1,fun _ m=>.inl m,fun x o e n _=>k x o (fun q=>n (q▸List.mem_of_getElem? hi)) e,fun x o e=>by
      by_cases q:x=a
      · subst q;exact (hr z.1).live
      · exact ⟨o,k x o q e⟩,rfl⟩
theorem To.turned {α β:Type}{R:St G→α→β→Prop}{K:α→AH→Prop}{Q:β→Shared→Prop}{v:α}{x:β}{o:AObj}{a:Addr}{i:Nat}{h':Heap}{tk:Nat} (hq:To R t K Q) (hi:t.ρ[i]?=some a) (k:∀ b o,b≠a→t.h.get? b=some o→h'.get? b=some o)
    (hr:Later G t.ρ t.h t.ρ h'→ObjR G t.ρ h' o a) (e:K v (t.H.set i o)) (hp:Later G t.ρ t.h t.ρ h'→R (t.upd hi k hr tk) v x):Q x { t.s with heap:=h',toks:=tk } :=
  hq (t.upd hi k hr tk) v x (t.upds hi k hr tk) e (hp (t.updSim hi k hr).1)
theorem St.ownSim (t:St G) {h':Heap} (k:∀ a o,t.h.get? a=some o→¬ own a→h'.get? a=some o) (ho:∀ a o,own a→t.h.get? a=some o→a∉t.ρ∧¬ Fix G a o):Later G t.ρ t.h t.ρ h'∧Sim G t.ρ t.H h' :=
  have S:=t.sim
  have L:Later G t.ρ t.h t.ρ h':=⟨fun _ _ e=>e,fun a o e f n=>⟨k a o e fun q=>(ho a o q e).2 f,n⟩⟩
  have same:∀ a,a∈t.ρ→h'.get? a=t.h.get? a:=fun a m=>(S.live m).elim fun o e=>(k a o e fun q=>(ho a o q e).1 m).trans e.symm
  ⟨L,S.len,S.nodup,fun i o a e f=>(S.objs i o a e f).later L (same a (List.mem_of_getElem? f)),fun a o e n=>k a o (S.base a o e n) fun q=>(ho a o q (S.base a o e n)).2 (.inr e),S.apart,S.tab⟩
noncomputable def St.turn (t:St G) {own:Addr→Prop}{h':Heap} (k:∀ a o,t.h.get? a=some o→¬ own a→h'.get? a=some o) (ho:∀ a o,own a→t.h.get? a=some o→a∉t.ρ∧¬ Fix G a o) (tk:Nat):St G :=
  ⟨t.ρ,t.H,{ t.s with heap:=h',toks:=tk },(t.ownSim k ho).2⟩
theorem St.owns (t:St G) {h':Heap} (k:∀ a o,t.h.get? a=some o→¬ own a→h'.get? a=some o) (ho:∀ a o,own a→t.h.get? a=some o→a∉t.ρ∧¬ Fix G a o)
    (al:∀ a o,own a→t.h.get? a=some o→∃ o',h'.get? a=some o') (tk:Nat):Step own t (t.turn k ho tk) :=
  ⟨(t.ownSim k ho).1,fun _ m=>.inl m,fun a o e _ q=>k a o e q,fun a o e=>by
      by_cases q:own a
      · exact al a o q e
      · exact ⟨o,k a o e q⟩,rfl⟩
end
structure Room (A:Around) (n:Nat):Prop where
  handled:A.handled=none
  guards:A.guards=some []
  depth:A.depth+n < 990
  units:A.units+n < 9700
theorem Room.le {A:Around}{n m:Nat} (r:Room A n) (h:m≤n):Room A m:=⟨r.handled,r.guards,Nat.lt_of_le_of_lt (Nat.add_le_add_left h _) r.depth,Nat.lt_of_le_of_lt (Nat.add_le_add_left h _) r.units⟩
theorem Room.u0 {A:Around}{n:Nat} (r:Room A n):A.units < 9700:=Nat.lt_of_le_of_lt (Nat.le_add_right _ _) r.units
theorem Room.u {A:Around}{n:Nat} (r:Room A n):A.units < cLine:=Nat.lt_trans r.u0 (by decide)
theorem Room.u64 {A:Around}{n:Nat} (r:Room A n):A.units+64 < cLine:=Nat.lt_of_lt_of_le (Nat.add_lt_add_right r.u0 64) (by decide)
theorem Room.u1 {A:Around}{n:Nat} (r:Room A n):A.in1.units < cLine:=Nat.lt_of_lt_of_le (Nat.succ_lt_succ r.u0) (by decide)
theorem Room.d {A:Around}{n:Nat} (r:Room A n):A.depth < recursionLimit:=Nat.lt_trans (Nat.lt_of_le_of_lt (Nat.le_add_right _ _) r.depth) (by decide)
theorem optK.elim {α:Type}{o:Option α}{Q:α→Prop}{C:Prop} (e:optK o Q) (f:∀ a,o=some a→Q a→C):C:=by
  cases o with
  | none=>exact False.elim e
  | some a=>exact f a rfl e
theorem optK.at {α:Type}{o:Option α}{Q:α→Prop}{a:α} (e:optK o Q) (h:o=some a):Q a:=by subst h;exact e
theorem ifK {c:Prop} [Decidable c] {α:Type}{a:α}{Q:α→Prop}{C:Prop} (e:optK (if c then some a else none) Q) (f:c→Q a→C):C:=by
  by_cases h:c
  · rw [if_pos h] at e;exact f h e
  · rw [if_neg h] at e;exact False.elim e
theorem ifN {c:Prop} [Decidable c] {α:Type}{a:α}{Q:α→Prop}{C:Prop} (e:optK (if c then none else some a) Q) (f:¬ c→Q a→C):C:=by
  by_cases h:c
  · rw [if_pos h] at e;exact False.elim e
  · rw [if_neg h] at e;exact f h e
theorem AObj.onL {D:AObj→Prop}{C:Prop}{o:AObj}{Q} (d:D o) (e:o.onList Q) (f:∀ vs,D (.list vs)→Q vs→C):C:=by cases o<;>first | exact e.elim | exact f _ d e
theorem AObj.onD {D:AObj→Prop}{C:Prop}{o:AObj}{Q} (d:D o) (e:o.onDict Q) (f:∀ vs,D (.dict vs)→Q vs→C):C:=by cases o<;>first | exact e.elim | exact f _ d e
section
variable {G:Ctx}{A:Around}{E:Value→Shared→Prop}{t:St G}
theorem lstObj_is {h:Heap}{a:Addr}{items:Array Value}{n:Nat} (e:h.get? a=some (lstObj items n)):h.IsList a items:=⟨_,e,rfl,n,rfl⟩
theorem St.lst {i:Nat}{a:Addr}{Q:List V→Prop}{C:Prop} (ha:t.ρ[i]?=some a) (e:lstK t.H i Q) (f:∀ us n vs,Q vs→t.h.get? a=some (lstObj (List.toArray us) n)→RVs t vs us→C):C :=
  optK.elim e fun o ho e=>AObj.onL (D:=fun o=>ObjR G t.ρ t.h o a) (t.sim.objs i o a ho ha) e fun vs r q=>r.elim fun us r=>r.elim fun n r=>f us n vs q r.1 r.2
theorem St.onList {v:V}{x:Value}{C:Value→Prop}{Q:Nat→List V→Prop} (r:RV t v x) (e:v.onRef fun i=>lstK t.H i (Q i)) (f:∀ i a us n vs,Q i vs→t.ρ[i]?=some a→t.h.get? a=some (lstObj (List.toArray us) n)→RVs t vs us→C (.ref a)):C x :=
  r.onRef e fun i a e ha=>St.lst ha e fun us n vs q g r=>f i a us n vs q ha g r
theorem St.onObj {v:V}{x:Value}{C:Value→Prop}{P:Nat→List V→Prop}{P':Nat→List (K × V)→Prop} (r:RV t v x) (e:v.onRef fun i=>optK t.H[i]? fun o=>o.onList (P i)∨o.onDict (P' i))
    (f:∀ i a us n vs,P i vs→t.ρ[i]?=some a→t.h.get? a=some (lstObj (List.toArray us) n)→RVs t vs us→C (.ref a))
    (g:∀ i a kvs,P' i kvs→t.ρ[i]?=some a→DictR G t.ρ t.h kvs a→C (.ref a)):C x :=
  r.onRef e fun i a e ha=>optK.elim e fun o ho e=>e.elim (fun e=>AObj.onL (D:=fun o=>ObjR G t.ρ t.h o a) (t.sim.objs i o a ho ha) e fun vs r q=>r.elim fun us r=>r.elim fun n r=>f i a us n vs q ha r.1 r.2)
    fun e=>AObj.onD (D:=fun o=>ObjR G t.ρ t.h o a) (t.sim.objs i o a ho ha) e fun vs r q=>g i a vs q ha r
theorem keep_push {h:Heap} (o:Obj):∀ a x,h.get? a=some x→(h.push o).get? a=some x:=fun _ _ e=>Heap.get?_push_of_some o e
theorem new_none (h:Heap):h.get? h.objs.size=none:=by
  unfold Heap.get?
  simp
theorem new_none_at (h:Heap) (k:Nat):h.get? (h.objs.size+k)=none:=by
  unfold Heap.get?
  simp
theorem lim_size {k:Nat} (h:k≤lim):k≤sizeLine:=Nat.le_trans h (by decide)
theorem To.newListAt {K:V→AH→Prop}{Q:Value→Shared→Prop}{vs:List V}{us:List Value}{a:Addr}{h':Heap}{c tk:Nat} (hq:To RV t K Q) (k:∀ a o,t.h.get? a=some o→h'.get? a=some o) (hn:t.h.get? a=none)
    (hl:h'.get? a=some (lstObj us.toArray c)) (hv:∀ ρ' (L:Later G t.ρ t.h ρ' h'),All2 (VRel G ρ' h') vs us) (e:K (.ref t.H.length) (t.H++[.list vs])):Q (.ref a) { t.s with heap:=h',toks:=tk } :=
  hq.fresh (o:=.list vs) k hn (fun L=>⟨us,c,hl,hv _ L⟩) e (.ref (ref_last t))
theorem To.newList {K:V→AH→Prop}{Q:Value→Shared→Prop}{vs:List V}{us:List Value}{tk:Nat} (hq:To RV t K Q) (hv:RVs t vs us) (e:K (.ref t.H.length) (t.H++[.list vs])) :
    Q (.ref t.s.heap.objs.size) { t.s with heap:=t.s.heap.push { cls:=.type "list",data:=.seq us.toArray },toks:=tk } :=
  hq.newListAt (keep_push _) (new_none _) (Heap.get?_push_size _ rfl) (fun _ L=>L.all hv) e
noncomputable def Op.py:Op→Operator
  | .add=>.Add | .sub=>.Sub | .mul=>.Mult | .fdiv=>.FloorDiv | .mod=>.Mod | .bor=>.BitOr | .band=>.BitAnd | .shl=>.LShift | .shr=>.RShift
theorem mulOk_of {a b:Int} (h:mulOk a b=true):IntMulOk a b :=
  (bO h).elim (fun h=>IntMulOk.of_left (intBits_le_64 (by have:=of_decide_eq_true h;omega) (by have:=of_decide_eq_true h;omega)))
    fun h=>IntMulOk.of_right (intBits_le_64 (by have:=of_decide_eq_true h;omega) (by have:=of_decide_eq_true h;omega))
theorem bitAnd_nat {a b:Int} (ha:0≤a) (hb:0≤b):Builtin.bitAnd a b=((a.toNat &&& b.toNat:Nat):Int):=by
  unfold Builtin.bitAnd
  rw [decide_eq_true ha,decide_eq_true hb]
theorem bitOr_nat {a b:Int} (ha:0≤a) (hb:0≤b):Builtin.bitOr a b=((a.toNat ||| b.toNat:Nat):Int):=by
  unfold Builtin.bitOr Builtin.bitAnd Builtin.bitNot
  rw [decide_eq_false (by omega),decide_eq_false (by omega)]
  have e1:(-(-a - 1) - 1:Int)=a:=by omega
  have e2:(-(-b - 1) - 1:Int)=b:=by omega
  simp only [e1,e2]
  omega
theorem int_ok {op:Op}{x y:Int}{u v:Tok}{K:V→AH→Prop}{Q:Value→Shared→Prop} (e:optK (intOp op x y) fun r=>K (.int r) t.H) (hq:To RV t K Q) :
    wpAny (model pw G.w) A (binaryOp op.py (.int x u) (.int y v)) Q E t.s:=by
  have fin:∀ r,K (.int r) t.H→Q (.int r t.s.toks) { t.s with toks:=t.s.toks+1 }:=fun r e=>hq.tok e (.int _ _)
  cases op with
  | add=>exact add_int (fin _ e)
  | sub=>exact sub_int (fin _ e)
  | mul=>exact ifK e fun h e=>mul_int (fin _ e) (mulOk_of h)
  | fdiv=>exact ifK e fun h e=>floordiv_int (Ne.symm (Int.ne_of_lt h.1)) (fin _ e) (Or.inl (PyProof.noPylong_small (by omega)))
  | mod=>exact ifN e fun h e=>mod_int' h (fin _ e)
  | bor=>exact ifK e fun h e=>or_int (by rw [bitOr_nat h.1 h.2];exact fin _ e)
  | band=>exact ifK e fun h e=>and_int (by rw [bitAnd_nat h.1 h.2];exact fin _ e)
  | shl=>exact ifK e fun h e=>lshift_int_small (by omega) (by omega) (by omega) (fin _ e)
  | shr=>exact ifK e fun h e=>rshift_int (by omega) (fin _ e)
theorem add_lists_ok {a b:Addr}{us ws:List Value}{n m:Nat}{xs ys:List V}{K:V→AH→Prop}{Q:Value→Shared→Prop} (ha:t.h.get? a=some (lstObj us.toArray n)) (hb:t.h.get? b=some (lstObj ws.toArray m)) (r:RVs t xs us) (q:RVs t ys ws)
    (e:newList (xs++ys) t.H K) (hq:To RV t K Q):wpAny (model pw G.w) A (binaryOp .Add (.ref a) (.ref b)) Q E t.s:=by
  refine concat_meets ⟨_,ha,rfl⟩ ⟨_,hb,rfl⟩ noFill_list_add seq_list_add PySem.F.slot_list_add PySem.F.entry_list_add (PySem.F.args_list_add_2 _ _) (list_addW a b us.toArray ws.toArray n m none none #[] #[] ?_) ⟨ha,hb,?_⟩
  · exact lim_size (by have:=e.1;rw [List.length_append,r.len,q.len] at this;exact this)
  · rw [List.append_toArray]
    exact hq.newList (r.app q) e.2
theorem rep_flat (vs:List V):∀ n,rep vs n=(List.replicate n vs).flatten
  | 0=>rfl
  | n+1=>by rw [List.replicate_succ,List.flatten_cons,← rep_flat vs n];rfl
theorem All2.rep {R:V→Value→Prop}{vs:List V}{xs:List Value} (r:All2 R vs xs):∀ n,All2 R (rep vs n) (List.replicate n xs).flatten
  | 0=>.nil
  | n+1=>r.app (r.rep n)
theorem mul_list_ok {a:Addr}{us:List Value}{n:Nat}{xs:List V}{x:Int}{u:Tok}{K:V→AH→Prop}{Q:Value→Shared→Prop} (ho:t.h.get? a=some (lstObj us.toArray n)) (r:RVs t xs us) (h0:0≤x) (h1:x≤1000) (hl:xs.length≤1)
    (e:newList (Mine.rep xs x.toNat) t.H K) (hq:To RV t K Q):wpAny (model pw G.w) A (binaryOp .Mult (.ref a) (.int x u)) Q E t.s:=by
  have hv:us.toArray.size≤1:=by rw [List.size_toArray,← r.len];exact hl
  have hsz':us.toArray.size * x.toNat≤2 ^ 24:=Nat.le_trans (Nat.mul_le_mul hv (show x.toNat≤1000 by omega)) (by decide)
  refine wpAny_binaryOp_repeat_ref (T:="list") (U:="int") (by decide) ⟨_,ho,rfl⟩ (fun s'=>typeIs_int s' x u) noFill_list_mul F.fills_int_mul F.slot_int_rmul repeat_list F.slot_int_index.lookup
    (call_meets F.slot_int_rmul (typeIs_int t.s x u) F.entry_int_rmul (F.args_int_rmul_2 _ _) (lm_int_rmul_list_any x u a us.toArray n none #[])
      ⟨ho,rfl,⟨_,ho,rfl⟩,call_meets F.slot_list_mul ⟨_,ho,rfl⟩ F.entry_list_mul (F.args_list_mul_2 _ _)
        (lm_list_mul_any a us.toArray n none #[] x u (by simp [Builtin.List.listFitsIndex];omega) (by omega) (by simp [Builtin.List.listTooLong,sizeLine];omega))
        ⟨ho,?_⟩⟩)
  rw [listMul_foldl_if]
  exact hq.newList (r.rep _) e.2
theorem bin_ok {op:Op}{x y:V}{a b:Value}{K:V→AH→Prop}{Q:Value→Shared→Prop} (hx:RV t x a) (hy:RV t y b) (e:binV op x y t.H K) (hq:To RV t K Q):wpAny (model pw G.w) A (binaryOp op.py a b) Q E t.s:=by
  refine e.elim (fun e=>?_) fun e=>e.elim (fun e=>?_) fun e=>e.elim (fun e=>?_) fun e=>?_
  · apply hx.onInt e;intro _ _ e
    apply hy.onInt e;intro _ _ e
    exact int_ok e hq
  · rw [e.1]
    apply hx.onBytes e.2;intro p _ e
    apply hy.onBytes e;intro q _ e
    exact KBy.add_bytes (lim_size e.1) fun t' k=>by rw [List.append_toArray];exact hq.tok e.2 (.bytes _ _)
  · rw [e.1]
    apply hx.onRef e.2;intro _ _ e ha
    apply hy.onRef e;intro _ _ e hb
    exact St.lst ha e fun _ _ _ e g r=>St.lst hb e fun _ _ _ e g' r'=>add_lists_ok g g' r r' e hq
  · rw [e.1]
    apply hx.onRef e.2;intro _ _ e ha
    apply hy.onInt e;intro _ _ e
    exact St.lst ha e fun _ _ _ e g r=>mul_list_ok g r e.1.1 e.1.2.1 e.1.2.2 e.2 hq
end
inductive OptR {α β:Type} (R:α→β→Prop):Option α→Option β→Prop
  | none:OptR R none none
  | some {a b}:R a b→OptR R (some a) (some b)
theorem OptR.isSome {α β:Type}{R:α→β→Prop}{a:Option α}{b:Option β} (r:OptR R a b):b.isSome=a.isSome :=
  OptR.rec (R:=R) (motive:=fun a b _=>b.isSome=a.isSome) rfl (fun _=>rfl) r
theorem OptR.get {α β:Type}{R:α→β→Prop}{a:Option α}{b:Option β}{Q:α→Prop}{C:Prop} (r:OptR R a b) (e:optK a Q) (f:∀ x y,b=Option.some y→Q x→R x y→C):C :=
  OptR.rec (R:=R) (motive:=fun a b _=>optK a Q→(∀ x y,b=Option.some y→Q x→R x y→C)→C) (fun e _=>False.elim e) (fun h e f=>f _ _ rfl e h) r e f
section
variable {G:Ctx}{A:Around}{E:Value→Shared→Prop}{t:St G}{ρ ρ':List Addr}{h h':Heap}
theorem DictOf.nil_any {κ κ':Type} [DecidableEq κ] [DecidableEq κ'] {k:KeyKind pw G.w κ}{k':KeyKind pw G.w κ'}{a:Addr} (d:h.DictOf k a []):h.DictOf k' a []:=by
  obtain ⟨o,es,ep,h1,h2,h3,h4,h5,h6⟩:=d
  have:es=#[]:=Array.eq_empty_of_size_eq_zero (Array.length_toList▸h5.length)
  subst this
  exact ⟨o,#[],ep,h1,h2,h3,fun e he=>(by simp at he),.nil,by simp⟩
theorem KvR.look {κ:Type} [DecidableEq κ] {f:κ→K} (inj:∀ a b,f a=f b→a=b) (k:κ) {kvs:List (K × V)}{l:List (κ × Value)} (r:KvR G ρ h f kvs l):OptR (VRel G ρ h) (kvs.lookup (f k)) (valueAt l k):=by
  unfold KvR at r
  induction r with
  | nil=>exact .none
  | @cons p q _ _ e _ ih =>
    obtain ⟨p1,p2⟩:=p
    obtain rfl:p1=f q.1:=e.1
    unfold valueAt at ih ⊢
    rw [List.lookup_cons,List.find?_cons]
    by_cases hk:k=q.1
    · rw [← hk,beq_self_eq_true,decide_eq_true rfl];exact .some e.2
    · rw [beq_eq_false_iff_ne.mpr fun z=>hk (inj _ _ z),decide_eq_false fun z=>hk z.symm];exact ih
theorem stored_cons_ne {κ:Type} [DecidableEq κ] {j k:κ} (e:j≠k) (y x:Value) (l:List (κ × Value)):stored ((j,y) :: l) k x=(j,y) :: stored l k x:=by
  unfold stored
  rw [List.any_cons,decide_eq_false e,Bool.false_or,List.map_cons,if_neg e]
  split<;>rfl
theorem stored_cons_eq {κ:Type} [DecidableEq κ] {k:κ} (y x:Value) (l:List (κ × Value)) (hn:k∉l.map (·.1)):stored ((k,y) :: l) k x=(k,x) :: l:=by
  unfold stored
  rw [List.any_cons,decide_eq_true rfl,Bool.true_or,if_pos rfl,List.map_cons,map_store_of_not_mem l k x hn,if_pos rfl]
theorem KvR.put {κ:Type} [DecidableEq κ] {f:κ→K} (inj:∀ a b,f a=f b→a=b) (k:κ) {v:V}{x:Value} (hv:VRel G ρ h v x) {kvs:List (K × V)}{l:List (κ × Value)} (r:KvR G ρ h f kvs l) (nd:(l.map (·.1)).Nodup) :
    KvR G ρ h f (putK kvs (f k) v) (stored l k x):=by
  unfold KvR at r
  induction r with
  | nil=>exact .cons ⟨rfl,hv⟩ .nil
  | @cons p q _ _ e r ih =>
    obtain ⟨p1,p2⟩:=p
    obtain ⟨q1,q2⟩:=q
    obtain rfl:p1=f q1:=e.1
    rw [List.map_cons,List.nodup_cons] at nd
    unfold putK
    by_cases hk:q1=k
    · subst hk
      rw [stored_cons_eq _ _ _ nd.1,if_pos rfl];exact .cons ⟨rfl,hv⟩ r
    · rw [stored_cons_ne hk,if_neg fun z=>hk (inj _ _ z)];exact .cons ⟨rfl,e.2⟩ (ih nd.2)
theorem DictIn.other {d d':Knd G.w}{kvs a k} (D:d.In G ρ h kvs a) (al:kvs.all (fun e=>e.1.sameKind k)=true) (hf:∀ j,(d.f j).sameKind k=false):d'.In G ρ h kvs a:=by
  obtain ⟨l,h1,h2⟩:=D
  cases h2 with
  | nil=>exact ⟨[],@DictOf.nil_any _ _ _ _ d.dec d'.dec _ _ _ h1,.nil⟩
  | @cons p q _ _ e _ =>
    rw [List.all_cons,e.1,hf] at al
    exact nomatch al
theorem isB (b:List UInt8) (t:Tok):(bytesKind pw G.w).is b (.bytes b.toArray t)=true:=by simp [bytesKind,isBytes]
theorem isS (b:PySem.Str) (t:Tok):(strKind pw G.w).is b (.str b t)=true:=by simp [PySem.strKind,Value.isStrOf]
theorem isI (b:Int) (t:Tok):(intKind pw G.w).is b (.int b t)=true:=by simp [PySem.intKind,Value.isInt]
theorem key_kind {v:V}{x:Value}{kvs:List (K × V)}{a:Addr}{Q:K→Prop}{P:Prop} (r:VRel G ρ h v x) (D:DictR G ρ h kvs a) (e:optK v.key fun k=>kvs.all (fun e=>e.1.sameKind k)=true∧Q k)
    (go:∀ (d:Knd G.w) (j:d.κ),@KeyKind.is _ _ _ d.dec d.knd j x=true→Q (d.f j)→d.In G ρ h kvs a→(∀ (ρ':List Addr) (h':Heap) kvs',d.In G ρ' h' kvs' a→DictR G ρ' h' kvs' a)→P):P:=by
  revert go
  apply r.sees
  cases v with
  | int i=>exact fun t go=>go (knI _) i (isI i t) e.2 (D.elim (fun D=>DictIn.other D e.1 fun _=>rfl) fun D=>D.elim id fun D=>DictIn.other D e.1 fun _=>rfl) fun _ _ _ d=>.inr (.inl d)
  | str b=>exact fun t go=>go (knS _) (toStr b) (isS _ t) e.2 (D.elim id fun D=>D.elim (fun D=>DictIn.other D e.1 fun _=>rfl) fun D=>DictIn.other D e.1 fun _=>rfl) fun _ _ _ d=>.inl d
  | bytes b=>exact fun t go=>go (knB _) b (isB b t) e.2 (D.elim (fun D=>DictIn.other D e.1 fun _=>rfl) fun D=>D.elim (fun D=>DictIn.other D e.1 fun _=>rfl) id) fun _ _ _ d=>.inr (.inr d)
  | _=>exact False.elim e
section
variable {v:V}{x:Value}{kvs:List (K × V)}{i:Nat}{a:Addr}{K₀:V→AH→Prop}{Q:Value→Shared→Prop}
theorem dict_in_ok (ha:t.ρ[i]?=some a) (hd:DictR G t.ρ t.h kvs a) (r:RV t v x) (e:optK v.key fun k=>kvs.all (fun e=>e.1.sameKind k)=true∧K₀ (.bool (kvs.lookup k).isSome) t.H)
    (hq:To RV t K₀ Q):wpAny (model pw G.w) A (compareOp .In x (.ref a)) Q E t.s :=
  key_kind r hd e fun d j hk e D _=>letI:=d.dec;D.elim fun l D=>wpAny_in_of hk (t.sim.mods (List.mem_of_getElem? ha)) D.1.mapOf (hq.tok e (by rw [(D.2.look d.inj j).isSome];exact .bool _))
theorem dict_nin_ok (ha:t.ρ[i]?=some a) (hd:DictR G t.ρ t.h kvs a) (r:RV t v x) (e:optK v.key fun k=>kvs.all (fun e=>e.1.sameKind k)=true∧K₀ (.bool (!(kvs.lookup k).isSome)) t.H)
    (hq:To RV t K₀ Q):wpAny (model pw G.w) A (compareOp .NotIn x (.ref a)) Q E t.s :=
  key_kind r hd e fun d j hk e D _=>letI:=d.dec;D.elim fun l D=>wpAny_notIn_of hk (t.sim.mods (List.mem_of_getElem? ha)) D.1.mapOf (hq.tok e (by rw [(D.2.look d.inj j).isSome];exact .bool _))
theorem dict_get_ok (hd:DictR G t.ρ t.h kvs a) (r:RV t v x) (e:optK v.key fun k=>kvs.all (fun e=>e.1.sameKind k)=true∧optK (kvs.lookup k) fun x=>K₀ x t.H)
    (hq:To RV t K₀ Q):wpAny (model pw G.w) A (getItem (.ref a) x) Q E t.s :=
  key_kind r hd e fun d j hk e D _=>letI:=d.dec;D.elim fun l D=>(D.2.look d.inj j).get e fun u y h e r=>wpAny_getItem_of hk D.1.mapOf h (hq.tok e r)
theorem dict_set_ok {u:V}{y:Value}{K₀:AH→Prop}{Q:Unit→Shared→Prop} (ha:t.ρ[i]?=some a) (hd:DictR G t.ρ t.h kvs a) (r:RV t v x) (ru:RV t u y)
    (e:optK v.key fun k=>(kvs.all (fun e=>e.1.sameKind k)=true∧kvs.length < lim)∧K₀ (t.H.set i (.dict (putK kvs k u)))) (hq:To RU t (fun _=>K₀) Q):wpAny (model pw G.w) A (setItem (.ref a) x y) Q E t.s:=by
  refine key_kind (Q:=fun k=>kvs.length < lim∧K₀ (t.H.set i (.dict (putK kvs k u)))) r hd (optK.elim e fun k h e=>by rw [h];exact ⟨e.1.1,e.1.2,e.2⟩) fun d j hk e D back=>letI:=d.dec;D.elim fun l D=>?_
  refine wpAny_setItem_pairs hk D.1 (fun h' d' sb=>hq.turned (v:=()) (o:=.dict (putK kvs (d.f j) u)) ha (fun b o ne e=>(sb.2 b ne).trans e) (fun L=>back _ _ _ ⟨_,d',(D.2.put d.inj j ru ?_).later L⟩) e.2 fun _=>trivial) (by rw [← All2.len D.2];exact lim_size (Nat.le_of_lt e.1))
  exact D.1.elim fun _ d=>d.elim fun _ d=>d.elim fun _ d=>d.2.2.2.2.2
end
end
noncomputable def Cm.py:Cm→CmpOp
  | .eq=>.Eq | .ne=>.NotEq | .lt=>.Lt | .le=>.LtE | .gt=>.Gt | .ge=>.GtE | .isin=>.In | .nin=>.NotIn
theorem int_lt_le {x u:Int} (h:x≠u):decide (x≤u)=decide (x < u):=decide_eq_decide.mpr ⟨fun q=>Int.lt_iff_le_and_ne.mpr ⟨q,h⟩,Int.le_of_lt⟩
theorem tuple_ltAt (l b:Addr) (x y u v:Int) (t1 t2 t3 t4:Tok) (n n2:Nat) (dd dd2:Option Addr) (sl sl2:Array (Option Value)) :
    Meets (Builtin.«tuple.__lt__» ⟨[.ref l,.ref b],[]⟩)
      (fun A R s=>s.heap.get? l=some { cls:=.type "tuple",dict:=dd,data:=.seq #[.int x t1,.int y t2] n,slots:=sl }∧s.heap.get? b=some { cls:=.type "tuple",dict:=dd2,data:=.seq #[.int u t3,.int v t4] n2,slots:=sl2 } ∧
        R (.ok (.ret (.bool (if x=u then decide (y < v) else decide (x < u))))) s) :=
  .of_wp fun prog w A R s h=>by
    have tb:s.heap.IsTuple b #[.int u t3,.int v t4]:=⟨_,h.2.1,rfl,_,rfl⟩
    replace h:s.heap.IsTuple l #[.int x t1,.int y t2]∧_:=⟨⟨_,h.1,rfl,_,rfl⟩,h.2.2⟩
    show wpAny _ _ (isInstance (.ref b) (.type "tuple") >>= fun r=>_) _ _ _
    refine wpAny_bind (wpAny_isInstance tb.typeIs AutoSeq1.sub_tuple_tuple ?_)
    refine bm_if_false rfl ?_
    refine wpAny_bind (tupleItemsOf_ h.1 (wpAny_bind (tupleItemsOf_ tb ?_)))
    replace h:=h.2
    show wpAny _ _ (forIn [(Value.int x t1,Value.int u t3),(Value.int y t2,Value.int v t4)] _ _ >>= _) _ _ _
    rw [List.forIn_cons]
    refine wpAny_bind (wpAny_bind (wpAny_bind (EqAt.int_int x t1 u t3 prog w _ _ ?_)))
    by_cases e:x=u
    · rw [if_pos e] at h
      rw [beq_iff_eq.mpr e]
      refine bm_if_false rfl (wpAny_pure ?_)
      show wpAny _ _ (forIn [(Value.int y t2,Value.int v t4)] _ _) _ _ _
      rw [List.forIn_cons]
      refine wpAny_bind (wpAny_bind (EqAt.int_int y t2 v t4 prog w _ _ ?_))
      by_cases e:y=v
      · rw [beq_iff_eq.mpr e]
        rw [decide_eq_false (e▸Int.lt_irrefl y)] at h
        exact bm_if_false rfl (wpAny_pure (wpAny_pure (wpAny_pure ⟨_,rfl,h⟩)))
      · rw [beq_eq_false_iff_ne.mpr e]
        exact bm_if_true rfl (wpAny_bind (wpAny_rule (wpAny_bind (PyProof.Rows.lt_int (wpAny_bind (wpAny_pure (wpAny_pure (wpAny_pure (wpAny_pure ⟨_,rfl,h⟩)))))))))
    · rw [if_neg e] at h
      rw [beq_eq_false_iff_ne.mpr e]
      exact bm_if_true rfl (wpAny_bind (wpAny_rule (wpAny_bind (PyProof.Rows.lt_int (wpAny_bind (wpAny_pure (wpAny_pure (wpAny_pure (wpAny_pure ⟨_,rfl,h⟩)))))))))
theorem tuple_leAt (l b:Addr) (x y u v:Int) (t1 t2 t3 t4:Tok) (n n2:Nat) (dd dd2:Option Addr) (sl sl2:Array (Option Value)) :
    Meets (Builtin.«tuple.__le__» ⟨[.ref l,.ref b],[]⟩)
      (fun A R s=>s.heap.get? l=some { cls:=.type "tuple",dict:=dd,data:=.seq #[.int x t1,.int y t2] n,slots:=sl }∧s.heap.get? b=some { cls:=.type "tuple",dict:=dd2,data:=.seq #[.int u t3,.int v t4] n2,slots:=sl2 } ∧
        R (.ok (.ret (.bool (if x=u then decide (y≤v) else decide (x < u))))) s) :=
  .of_wp fun prog w A R s h=>by
    have tb:s.heap.IsTuple b #[.int u t3,.int v t4]:=⟨_,h.2.1,rfl,_,rfl⟩
    replace h:s.heap.IsTuple l #[.int x t1,.int y t2]∧_:=⟨⟨_,h.1,rfl,_,rfl⟩,h.2.2⟩
    show wpAny _ _ (isInstance (.ref b) (.type "tuple") >>= fun r=>_) _ _ _
    refine wpAny_bind (wpAny_isInstance tb.typeIs AutoSeq1.sub_tuple_tuple ?_)
    refine bm_if_false rfl ?_
    refine wpAny_bind (tupleItemsOf_ h.1 (wpAny_bind (tupleItemsOf_ tb ?_)))
    replace h:=h.2
    show wpAny _ _ (forIn [(Value.int x t1,Value.int u t3),(Value.int y t2,Value.int v t4)] _ _ >>= _) _ _ _
    rw [List.forIn_cons]
    refine wpAny_bind (wpAny_bind (wpAny_bind (EqAt.int_int x t1 u t3 prog w _ _ ?_)))
    by_cases e:x=u
    · rw [if_pos e] at h
      rw [beq_iff_eq.mpr e]
      refine bm_if_false rfl (wpAny_pure ?_)
      show wpAny _ _ (forIn [(Value.int y t2,Value.int v t4)] _ _) _ _ _
      rw [List.forIn_cons]
      refine wpAny_bind (wpAny_bind (EqAt.int_int y t2 v t4 prog w _ _ ?_))
      by_cases e:y=v
      · rw [beq_iff_eq.mpr e]
        rw [decide_eq_true (Int.le_of_eq e)] at h
        exact bm_if_false rfl (wpAny_pure (wpAny_pure (wpAny_pure ⟨_,rfl,h⟩)))
      · rw [beq_eq_false_iff_ne.mpr e]
        exact bm_if_true rfl (wpAny_bind (wpAny_rule (wpAny_bind (PyProof.Rows.le_int (wpAny_bind (wpAny_pure (wpAny_pure (wpAny_pure (wpAny_pure ⟨_,rfl,h⟩)))))))))
    · rw [if_neg e] at h
      rw [beq_eq_false_iff_ne.mpr e]
      exact bm_if_true rfl (wpAny_bind (wpAny_rule (wpAny_bind (PyProof.Rows.le_int (wpAny_bind (wpAny_pure (wpAny_pure (wpAny_pure (wpAny_pure ⟨_,rfl,(int_lt_le e).symm▸h⟩)))))))))
section
variable {G:Ctx}{A:Around}{E:Value→Shared→Prop}{t:St G}{ρ:List Addr}{h:Heap}{s:Shared}{n:Nat}
theorem toStr_eq (a b:List Nat):(toStr a == toStr b)=(a == b):=by
  rw [Bool.eq_iff_iff]
  simp [toStr]
theorem optK_of {α:Type}{o:Option α}{b:α} (e:o=some b):optK o (·=b):=by subst e;exact rfl
theorem eqP_elim {C:Value→Value→Prop}{x y:V}{a c:Value}{b:Bool} (e:eqP x y=some b) (hx:VRel G ρ h x a) (hy:VRel G ρ h y c) (fi:∀ i j t u,(i == j)=b→C (.int i t) (.int j u))
    (fb:∀ (i j:List UInt8) t u,(i == j)=b→C (.bytes i.toArray t) (.bytes j.toArray u)) (fs:∀ i j t u,(toStr i == toStr j)=b→C (.str (toStr i) t) (.str (toStr j) u)):C a c:=by
  replace e:=optK_of e
  apply hx.sees
  cases x with
  | int i=>exact fun t=>hy.sees (C:=C (.int i t)) (by cases y<;>first | exact False.elim e | exact fun u=>fi i _ t u e)
  | bytes i=>exact fun t=>hy.sees (C:=C (.bytes i.toArray t)) (by cases y<;>first | exact False.elim e | exact fun u=>fb i _ t u e)
  | str i=>exact fun t=>hy.sees (C:=C (.str (toStr i) t)) (by cases y<;>first | exact False.elim e | exact fun u=>fs i _ t u ((toStr_eq i _).trans e))
  | _=>exact False.elim e
theorem eqP_eq {x y:V}{b:Bool}{a c:Value} (e:eqP x y=some b) (hx:VRel G ρ h x a) (hy:VRel G ρ h y c):EqAt A s a c b :=
  eqP_elim (C:=fun a c=>EqAt A s a c b) e hx hy (fun i j t u e=>e▸EqAt.int_int _ _ _ _) (fun i j t u e prog w E Q hq=>eqBool_bytes (by rw [← Bool.beq_eq_decide_eq];exact e▸hq)) fun i j t u e=>e▸EqAt.str_str _ _ _ _
theorem eqP_cmp {x y:V}{b:Bool}{a c:Value} (e:eqP x y=some b) (hx:VRel G ρ h x a) (hy:VRel G ρ h y c) :
    (∀ Q:Value→Shared→Prop,Q (.bool b) s→wpAny (model pw G.w) A (compareOp .Eq a c) Q E s)∧(∀ Q:Value→Shared→Prop,Q (.bool (!b)) s→wpAny (model pw G.w) A (compareOp .NotEq a c) Q E s) :=
  eqP_elim (C:=fun a c=>(∀ Q:Value→Shared→Prop,Q (.bool b) s→wpAny (model pw G.w) A (compareOp .Eq a c) Q E s)∧(∀ Q:Value→Shared→Prop,Q (.bool (!b)) s→wpAny (model pw G.w) A (compareOp .NotEq a c) Q E s)) e hx hy
    (fun i j t u e=>e▸⟨fun _ h=>eq_int h,fun _ h=>ne_int h⟩) (fun i j t u e=>e▸⟨fun _ h=>eq_bytes h,fun _ h=>ne_bytes h⟩) fun i j t u e=>e▸⟨fun _ h=>eq_str h,fun _ h=>ne_str h⟩
theorem eqPs_at {xs:List V}{vs:List Value} (r:All2 (VRel G ρ h) xs vs):∀ {ys:List V}{us:List Value}{b:Bool},eqPs xs ys=some b→All2 (VRel G ρ h) ys us →
    xs.length=ys.length∧∃ f:Nat→Bool,(∀ j (h1:j < vs.length) (h2:j < us.length),EqAt A s vs[j] us[j] (f j))∧(List.range xs.length).all f=b:=by
  induction r with
  | nil =>
    intro ys us b e q
    cases q with
    | nil=>exact ⟨rfl,fun _=>true,fun j h=>absurd h (Nat.not_lt_zero j),Option.some.inj e⟩
    | cons=>exact False.elim (optK_of e)
  | @cons x v xs vs p r ih =>
    intro ys us b e q
    cases q with
    | nil=>exact False.elim (optK_of e)
    | @cons y u ys us q1 q2 =>
      have e:andO (eqP x y) (eqPs xs ys)=some b:=e
      obtain ⟨b1,e1,e⟩:=Option.bind_eq_some_iff.mp e
      obtain ⟨b2,e2,e⟩:=Option.map_eq_some_iff.mp e
      obtain ⟨hl,f,i1,i2⟩:=ih e2 q2
      refine ⟨congrArg (·+1) hl,fun j=>Nat.casesOn j b1 f,fun j=>?_,?_⟩
      · cases j with
        | zero=>exact fun _ _=>eqP_eq e1 p q1
        | succ j=>exact fun h1 h2=>i1 j (Nat.lt_of_succ_lt_succ h1) (Nat.lt_of_succ_lt_succ h2)
      · rw [List.length_cons,List.range_succ_eq_map,List.all_cons,List.all_map,← e,← i2]
        rfl
section
variable {x y:V}{a c:Value}
theorem eqV_ok {K:Bool→AH→Prop} (R:Room A n) (hx:RV t x a) (hy:RV t y c) (e:eqV x y t.H K) :
    ∃ b,K b t.H∧(∀ Q:Value→Shared→Prop,Q (.bool b) t.s→wpAny (model pw G.w) A (compareOp .Eq a c) Q E t.s)∧(∀ Q:Value→Shared→Prop,Q (.bool (!b)) t.s→wpAny (model pw G.w) A (compareOp .NotEq a c) Q E t.s):=by
  refine e.elim (fun e=>?_) fun e=>e.elim (fun e=>?_) fun e=>optK.elim e fun b h e=>⟨b,e,eqP_cmp h hx hy⟩
  · apply hx.onRef e;intro _ _ e ha
    apply hy.onRef e;intro _ _ e hb
    refine St.lst ha e fun us _ xs e g r=>St.lst hb e fun vs _ ys e g' r'=>optK.elim e fun b h e=>⟨b,e,?_⟩
    have sz:us.toArray.size=xs.length∧vs.toArray.size=ys.length:=⟨r.len.symm,r'.len.symm⟩
    unfold eqSeq at h
    by_cases hl:xs.length=ys.length
    · rw [if_pos hl] at h
      obtain ⟨_,f,i1,i2⟩:=eqPs_at (A:=A.in1) (s:=t.s) r h r'
      rw [← i2,← sz.1]
      exact ⟨RcAt.lists (lstObj_is g) (lstObj_is g') (by rw [sz.1,sz.2,hl]) R.u i1 pw G.w E,RcNeAt.lists (lstObj_is g) (lstObj_is g') (by rw [sz.1,sz.2,hl]) R.u i1 pw G.w E⟩
    · rw [if_neg hl] at h
      rw [← Option.some.inj h]
      exact ⟨RcAt.lists_lengths (lstObj_is g) (lstObj_is g') (by rw [sz.1,sz.2];exact bne_iff_ne.mpr hl) R.u pw G.w E,RcNeAt.lists_lengths (lstObj_is g) (lstObj_is g') (by rw [sz.1,sz.2];exact bne_iff_ne.mpr hl) R.u pw G.w E⟩
  · apply hx.onTup e;intro xs _ us _ e g _ r
    apply hy.onTup e;intro ys _ vs _ e g' _ r'
    refine optK.elim e.2 fun b h e=>⟨b,e,?_⟩
    obtain ⟨hl,f,i1,i2⟩:=eqPs_at (A:=A.in1) (s:=t.s) r h r'
    have sz:us.toArray.size=xs.length∧vs.toArray.size=xs.length:=⟨r.len.symm,r'.len.symm.trans hl.symm⟩
    have hb:((List.range (min us.toArray.size vs.toArray.size)).all f && us.toArray.size == vs.toArray.size)=b:=by rw [sz.1,sz.2,Nat.min_self,beq_self_eq_true,Bool.and_true];exact i2
    rw [← hb]
    exact ⟨RcAt.tuples (tupObj_is g) (tupObj_is g') R.u i1 pw G.w E,RcNeAt.tuples (tupObj_is g) (tupObj_is g') R.u i1 pw G.w E⟩
theorem cmp_tuples {o:Bool}{a b:Addr}{x y u v:Int}{us vs:List Value}{n₁ n₂:Nat}{Q:Value→Shared→Prop} (R:Room A n) (ha:t.h.get? a=some (tupObj us.toArray n₁)) (hb:t.h.get? b=some (tupObj vs.toArray n₂)) (r:RVs t [.int x,.int y] us) (r':RVs t [.int u,.int v] vs)
    (hq:Q (.bool (if x=u then (if o then decide (y≤v) else decide (y < v)) else decide (x < u))) t.s):wpAny (model pw G.w) A (compareOp (if o then .LtE else .Lt) (.ref a) (.ref b)) Q E t.s:=by
  revert ha hb
  apply r.two;intro _ _ p1 p2
  apply p1.sees;intro _
  apply p2.sees;intro _
  apply r'.two;intro _ _ p1 p2
  apply p1.sees;intro _
  apply p2.sees;intro _
  intro ho ho2
  cases o
  · exact richCompare_meets_room (op:=.Lt) ⟨_,ho,rfl⟩ ⟨_,ho2,rfl⟩ F.slot_tuple_lt F.entry_tuple_lt (F.args_tuple_lt_2 _ _) (tuple_ltAt a b x y u v _ _ _ _ _ _ none none #[] #[]) ⟨ho,ho2,⟨(fun x=>nomatch x),hq⟩⟩ R.u
  · exact richCompare_meets_room (op:=.LtE) ⟨_,ho,rfl⟩ ⟨_,ho2,rfl⟩ F.slot_tuple_le F.entry_tuple_le (F.args_tuple_le_2 _ _) (tuple_leAt a b x y u v _ _ _ _ _ _ none none #[] #[]) ⟨ho,ho2,⟨(fun x=>nomatch x),hq⟩⟩ R.u
theorem lt_ok {o:Bool}{K:V→AH→Prop}{Q:Value→Shared→Prop} (R:Room A n) (hx:RV t x a) (hy:RV t y c) (e:ltK o x y fun r=>K (.bool r) t.H) (hq:To RV t K Q) :
    wpAny (model pw G.w) A (compareOp (if o then .LtE else .Lt) a c) Q E t.s:=by
  refine e.elim (fun e=>?_) fun e=>?_
  · apply hx.onInt e;intro _ _ e
    apply hy.onInt e;intro _ _ e
    cases o
    · exact lt_int (hq.mk e (.bool _))
    · exact le_int (hq.mk e (.bool _))
  · apply hx.onTup e;intro _ _ _ _ e g _ r
    apply hy.onTup e;intro _ _ _ _ e g' _ r'
    obtain ⟨x,y,u,v,rfl,rfl,e⟩:=e
    exact cmp_tuples R g g' r r' (hq.mk e (.bool _))
noncomputable def eVal (x y:Value):Bool:=match x with
  | .int i _=>(match y with | .int j _=>j == i | _=>false)
  | .bytes b _=>(match y with | .bytes c _=>c.toList == b.toList | _=>false)
  | .str s _=>(match y with | .str t _=>t == s | _=>false)
  | _=>false
theorem anyEq_at {v:V}{x:Value} (hx:VRel G ρ h v x) {xs:List V}{vs:List Value} (r:All2 (VRel G ρ h) xs vs):∀ {b:Bool},anyEq v xs=some b →
    (∀ y,y∈vs→EqAt A s y x (eVal x y))∧vs.any (eVal x)=b:=by
  induction r with
  | nil=>exact fun e=>⟨fun _ m=>(nomatch m),Option.some.inj e⟩
  | @cons u y _ _ q1 _ ih =>
    intro b e
    have e:orO (eqP u v) (anyEq v _)=some b:=e
    obtain ⟨b1,e1,e⟩:=Option.bind_eq_some_iff.mp e
    obtain ⟨b2,e2,e⟩:=Option.map_eq_some_iff.mp e
    obtain ⟨i1,i2⟩:=ih e2
    have e3:eVal x y=b1:=eqP_elim (C:=fun y x=>eVal x y=b1) e1 q1 hx (fun _ _ _ _=>id) (fun _ _ _ _=>id) fun _ _ _ _=>id
    refine ⟨fun z hz=>(mZ hz).elim (fun q=>?_) (i1 z),by rw [List.any_cons,e3,i2];exact e⟩
    rw [q,e3];exact eqP_eq e1 q1 hx
theorem in_ok {K:V→AH→Prop}{Q:Value→Shared→Prop} (hx:RV t x a) (hy:RV t y c) (e:inV x y t.H fun r=>K (.bool r)) (hq:To RV t K Q):wpAny (model pw G.w) A (compareOp .In a c) Q E t.s:=by
  apply St.onObj hy e
  · exact fun _ _ _ _ _ e _ g r=>optK.elim e fun b h e =>
      have i:=anyEq_at (A:=A.in1) (s:=t.s) hx r h
      in_listAt (eVal a) (lstObj_is g) (fun y hy=>i.1 y (by simpa using hy)) (by rw [List.any_toArray,i.2];exact hq.mk e (.bool _))
  · exact fun _ _ _ e ha r=>dict_in_ok ha r hx e hq
theorem nin_ok {K:V→AH→Prop}{Q:Value→Shared→Prop} (hx:RV t x a) (hy:RV t y c) (e:inV x y t.H fun r=>K (.bool !r)) (hq:To RV t K Q):wpAny (model pw G.w) A (compareOp .NotIn a c) Q E t.s:=by
  apply St.onObj hy e
  · exact fun _ _ _ _ _ e _ g r=>optK.elim e fun b h e =>
      have i:=anyEq_at (A:=A.in1) (s:=t.s) hx r h
      notIn_listAt (eVal a) (lstObj_is g) (fun y hy=>i.1 y (by simpa using hy)) (by rw [List.any_toArray,i.2];exact hq.mk e (.bool _))
  · exact fun _ _ _ e ha r=>dict_nin_ok ha r hx e hq
theorem cmp_ok {o:Cm}{K:V→AH→Prop}{Q:Value→Shared→Prop} (R:Room A n) (hx:RV t x a) (hy:RV t y c) (e:cmpB o x y t.H fun r=>K (.bool r)) (hq:To RV t K Q):wpAny (model pw G.w) A (compareOp o.py a c) Q E t.s:=by
  cases o with
  | eq=>exact (eqV_ok R hx hy e).elim fun b e=>e.2.1 Q (hq.mk e.1 (.bool _))
  | ne=>exact (eqV_ok R hx hy e).elim fun b e=>e.2.2 Q (hq.mk e.1 (.bool _))
  | lt=>exact lt_ok (o:=false) R hx hy e hq
  | le=>exact lt_ok (o:=true) R hx hy e hq
  | gt =>
    apply hx.onInt e;intro _ _ e
    apply hy.onInt e;intro _ _ e
    exact gt_int (hq.mk e (.bool _))
  | ge =>
    apply hx.onInt e;intro _ _ e
    apply hy.onInt e;intro _ _ e
    exact PySem.P.ge_int (hq.mk e (.bool _))
  | isin=>exact in_ok hx hy e hq
  | nin=>exact nin_ok hx hy e hq
end
end
theorem All2.mapM {β:Type}{f:V→Option β}:∀ {vs:List V}{bs:List β},vs.mapM f=some bs→All2 (fun v b=>f v=some b) vs bs
  | [],bs,e=>by rw [List.mapM_nil] at e;obtain rfl:=Option.some.inj e;exact .nil
  | v :: r,bs,e=>by
    rw [List.mapM_cons] at e
    obtain ⟨b,e1,e⟩:=Option.bind_eq_some_iff.mp e
    obtain ⟨cs,e2,e⟩:=Option.bind_eq_some_iff.mp e
    obtain rfl:=Option.some.inj e
    exact .cons e1 (All2.mapM e2)
theorem All2.both {α β γ:Type}{R:α→β→Prop}{S:α→γ→Prop}{T:β→γ→Prop} (f:∀ a b c,R a b→S a c→T b c) {l m} (r:All2 R l m):∀ {k},All2 S l k→All2 T m k:=by
  induction r with
  | nil=>exact fun q=>q.none (C:=fun k=>All2 T [] k) .nil
  | cons h _ ih=>exact fun q=>q.head (C:=fun k=>All2 T (_ :: _) k) fun _ _ h' q=>.cons (f _ _ _ h h') (ih q)
section
variable {G:Ctx}{A:Around}{E:Value→Shared→Prop}{t:St G}{ρ:List Addr}{h:Heap}{s:Shared}{n:Nat}{x:V}{a:Value}{K:V→AH→Prop}{Q:Value→Shared→Prop}
theorem To.new (hq:To RV t K Q) {v:V}{y:Value}{h':Heap}{tk:Nat} (k:∀ a o,t.h.get? a=some o→h'.get? a=some o) (e:K v t.H) (r:Later G t.ρ t.h t.ρ h'→VRel G t.ρ h' v y):Q y { t.s with heap:=h',toks:=tk }:=hq.grown k e r
theorem len_le {k:Nat} (hk:k≤lim):(k:Int) < 2 ^ 63:=Int.lt_of_le_of_lt (Int.ofNat_le.mpr hk) (by decide)
theorem lenV_ok (hx:RV t x a) (e:lenV x t.H K) (hq:To RV t K Q):wpAny (model pw G.w) A (call (.builtin "len") [a]) Q E t.s:=by
  refine e.elim (fun e=>?_) fun e=>?_
  · apply St.onObj hx e
    · exact fun _ _ us _ vs e _ g r=>call_len_list (lstObj_is g) (by rw [List.size_toArray,← r.len];exact len_le e.1) (by rw [List.size_toArray,← r.len];exact hq.tok e.2 (.int _ _))
    · intro _ _ kvs e ha D
      have go:∀ d:Knd G.w,d.In G t.ρ t.h kvs _→wpAny (model pw G.w) A (call (.builtin "len") [.ref _]) Q E t.s:=fun d D=>D.elim fun l D=>letI:=d.dec;
        call_len_dict (t.sim.mods (List.mem_of_getElem? ha)) D.1 (by rw [← All2.len D.2];exact len_le e.1) (by rw [← All2.len D.2];exact hq.tok e.2 (.int _ _))
      exact D.elim (go _) fun D=>D.elim (go _) (go _)
  · apply hx.onBytes e;intro _ _ e
    exact len_bytes (Nat.le_trans e.1 (by decide)) (hq.tok e.2 (.int _ _))
theorem tupleV_ok (hx:RV t x a) (e:tupleV x t.H K) (hq:To RV t K Q):wpAny (model pw G.w) A (call (.type "tuple") [a]) Q E t.s:=by
  refine e.elim (fun e=>?_) fun e=>?_
  · apply hx.onTup e;intro _ _ _ _ e g na r
    exact call_tuple_same (tupObj_is g) (hq.mk e (.tup g na r))
  · apply St.onList hx e;intro _ _ us _ vs e _ g r
    refine call_tuple_list (lstObj_is g) (fun h' hk=>?_) (lim_size (by rw [List.size_toArray,← r.len];exact e.1))
    exact hq.grown (h':=h'.push { cls:=.type "tuple",data:=.seq us.toArray }) (fun b o e=>Heap.get?_push_of_some _ (hk b o e)) e.2 fun L=>.tup (Heap.get?_push_size _ rfl) (fun m=>(t.sim.live m).elim fun o q=>nomatch (hk _ _ q).symm.trans (new_none _)) (L.all r)
theorem toInt_ok (hx:RV t x a) (e:x.onInt fun i=>K (.int i) t.H) (hq:To RV t K Q):wpAny (model pw G.w) A (call (.type "int") [a]) Q E t.s:=by
  apply hx.onInt e;intro _ _ e
  exact call_int_int (hq.mk e (.int _ _))
theorem ord_ok (hx:RV t x a) (e:ordK x fun v=>K v t.H) (hq:To RV t K Q):wpAny (model pw G.w) A (call (.builtin "ord") [a]) Q E t.s:=by
  apply hx.onStr e;intro _ _ e
  obtain ⟨c,rfl,e⟩:=e
  exact P.ord_of_char (c:=c) (hq.tok e (.int _ _))
theorem ofString_digits (k:Nat):PySem.Str.ofString (toString (k:Int))=toStr (digits k):=by
  show PySem.Str.ofString (Nat.repr k)=_
  rw [PySem.Str.ofString_eq_toList]
  simp [toStr,digits,Nat.repr]
theorem str_ok (hx:RV t x a) (e:strK x fun v=>K v t.H) (hq:To RV t K Q):wpAny (model pw G.w) A (call (.type "str") [a]) Q E t.s:=by
  apply hx.onInt e;intro i _ e
  obtain ⟨k,rfl⟩:=Int.eq_ofNat_of_zero_le e.1.1
  refine P.str_of_int ?_ ?_
  · by_cases h0:k=0
    · subst h0;decide
    · exact (Nat.log2_lt h0).mpr (Nat.lt_of_lt_of_le (Int.ofNat_lt.mp e.1.2) (Nat.le_trans (by decide:10 ^ 9≤2 ^ 30) (Nat.pow_le_pow_right (by decide) (Nat.le_of_ble_eq_true rfl))))
  · rw [ofString_digits]
    exact hq.tok e.2 (.str _ _)
noncomputable def isByte (x:Value) (b:UInt8):Prop:=∃ i t,x = .int i t∧(0≤i∧i < 256)∧b=UInt8.ofNat i.toNat
theorem bytes_ints {us:List Value}{bs:List UInt8} (r:All2 isByte us bs):∃ ns:List Int,IntsAre us ns∧(∀ k∈ns,0≤k∧k < 256)∧byteArr ns=bs.toArray:=by
  induction r with
  | nil=>exact ⟨[],.nil,fun _ m=>(nomatch m),rfl⟩
  | cons h _ ih =>
    obtain ⟨i,t,rfl,hc,rfl⟩:=h
    obtain ⟨ns,i1,i2,i3⟩:=ih
    refine ⟨i :: ns,.cons _ _ i1,fun k hk=>(mZ hk).elim (fun q=>q▸hc) (i2 k),?_⟩
    have:=congrArg Array.toList i3
    unfold byteArr at this ⊢
    exact congrArg (fun l=>List.toArray (UInt8.ofNat i.toNat :: l)) this
theorem look_bytes:typeLookup (.type "bytes") "__bytes__" = pure (some (.builtin "bytes.__bytes__")):=by rw [typeLookup_type,builtinLookup_eq_fast];kernel_rfl
theorem bytes_new {b:Array UInt8}{u:Tok} (hq:Q (.bytes b u) s):codeAny (model pw G.w) A (.call (.builtin "bytes.__new__") ⟨[.type "bytes",.bytes b u],[]⟩) (wants Q E) s:=by
  refine codeAny_of_tree ?_
  show wpAny _ A.in1 (do checkBuiltinCall "bytes.__new__" ⟨[.type "bytes",.bytes b u],[]⟩;again (.builtin "bytes.__new__" ⟨[.type "bytes",.bytes b u],[]⟩)) _ _ s
  refine wpAny_bind (wpAny_of_eq (F.bm_newCall _) (wpAny_pure ⟨plainId_quiet F.bm_plain _,codeAny_builtin F.bm_entry ?_⟩))
  rw [Around.under_plainId F.bm_plain _]
  have hT:s.TypeIs (.bytes b u) "bytes":=typeIs_bytes s b u
  unfold Builtin.«bytes.__new__»
  exact wpAny_bind (wpAny_of_eq (a:=true) rfl (bm_if_false rfl (wpAny_bind (wpAny_of_eq F.bm_sub (bm_if_false rfl (wpAny_bind (wpAny_of_eq (F.bm_bind _) (wpAny_bind (wpAny_of_eq (a:=()) rfl (wpAny_bind (wpAny_of_eq (a:=()) rfl
    (bm_if_false rfl (wpAny_bind (wpAny_specialOf hT look_bytes (wpAny_bind (wpAny_rule (wpAny_bind (wpAny_typeOf hT (bm_if_true rfl (bm_if_true (show (Value.type "bytes" == Value.type "bytes")=true by rfl) (wpAny_pure hq)))))))))))))))))))))
theorem bytes_bytes {b:Array UInt8}{u:Tok} (hq:Q (.bytes b u) s):wpAny (model pw G.w) A (call (.type "bytes") [.bytes b u]) Q E s :=
  callType_codes (Q₁:=fun obj s₁=>s₁.TypeIs obj "bytes"∧Q obj s₁) F.bm_called (F.bm_typeCall _) F.entry_object_init (bytes_new ⟨typeIs_bytes _ _ _,hq⟩) fun obj s₁ h₁ =>
    ⟨h₁.1,F.args_object_init_2 obj _,object_init_meets F.bm_called.init.lookup F.bm_called.made (by decide) pw G.w A.in1 _ s₁ ⟨h₁.1,rfl,h₁.2⟩⟩
theorem byteOf_ok {v:V}{y:Value}{b:UInt8} (r:VRel G ρ h v y) (e:byteOf v=some b):isByte y b:=by
  replace e:=optK_of e
  apply r.sees (C:=fun y=>isByte y b)
  cases v with
  | int i=>exact fun t=>ifK e fun h e=>⟨_,_,rfl,h,e.symm⟩
  | _=>exact False.elim e
theorem bytesV_ok (R:Room A n) (hx:RV t x a) (e:bytesV x t.H K) (hq:To RV t K Q):wpAny (model pw G.w) A (call (.type "bytes") [a]) Q E t.s:=by
  refine e.elim (fun e=>?_) fun e=>?_
  · apply hx.onBytes e;intro _ _ e
    exact bytes_bytes (hq.mk e (.bytes _ _))
  · apply St.onList hx e;intro _ _ us _ vs e _ g r
    refine optK.elim e.2 fun bs h q=>(bytes_ints (r.both (S:=fun v b=>byteOf v=some b) (T:=isByte) (fun _ _ _=>byteOf_ok) (All2.mapM h))).elim fun ns i=>?_
    refine call_bytes_ints (lstObj_is g) i.1 i.2.1 (lim_size (by rw [← r.len];exact e.1)) R.handled fun h' u k hk=>?_
    rw [i.2.2]
    exact hq.grown hk q fun L=>.bytes _ _
theorem listV_ok (hx:RV t x a) (e:listV x t.H K) (hq:To RV t K Q):wpAny (model pw G.w) A (call (.type "list") [a]) Q E t.s:=by
  refine e.elim (fun e=>?_) fun e=>?_
  · apply hx.onTup e;intro _ a us _ e g na r
    exact call_list_seq a (.inr rfl) g rfl rfl (fun h' c' hk hn=>hq.newListAt (tk:=t.s.toks) hk (new_none _) hn (fun _ L=>L.all r) e.2) (lim_size (by rw [List.size_toArray,← r.len];exact e.1))
  · apply St.onList hx e;intro _ a us _ vs e _ g r
    exact call_list_seq a (.inl rfl) g rfl rfl (fun h' c' hk hn=>hq.newListAt (tk:=t.s.toks) hk (new_none _) hn (fun _ L=>L.all r) e.2) (lim_size (by rw [List.size_toArray,← r.len];exact e.1))
end
noncomputable def insBy {α:Type} (lt:α→α→Bool) (v:α):List α→List α
  | []=>[v]
  | x :: r=>if lt v x then v :: x :: r else x :: insBy lt v r
noncomputable def sortBy {α:Type} (lt:α→α→Bool):List α→List α
  | []=>[]
  | v :: r=>insBy lt v (sortBy lt r)
theorem insBy_perm {α:Type} (lt:α→α→Bool) (v:α):∀ l:List α,(insBy lt v l).Perm (v :: l)
  | []=>.refl _
  | x :: r=>by
    unfold insBy
    split
    · exact .refl _
    · exact ((insBy_perm lt v r).cons x).trans (.swap v x r)
theorem sortBy_perm {α:Type} (lt:α→α→Bool):∀ l:List α,(sortBy lt l).Perm l
  | []=>.refl _
  | v :: r=>(insBy_perm lt v _).trans ((sortBy_perm lt r).cons v)
structure StrictO {α:Type} (lt:α→α→Bool):Prop where
  trans:∀ a b c,lt b a=false→lt c b=false→lt c a=false
  tot:∀ a b,lt a b=true→lt b a=false
  anti:∀ a b,lt a b=false→lt b a=false→a=b
theorem insBy_sorted {α:Type}{lt:α→α→Bool} (O:StrictO lt) (v:α):∀ l:List α,l.Pairwise (fun a b=>lt b a=false)→(insBy lt v l).Pairwise (fun a b=>lt b a=false)
  | [],_=>List.pairwise_singleton _ _
  | x :: r,h=>by
    unfold insBy
    rw [List.pairwise_cons] at h
    split
    · rename_i hv
      exact .cons (fun y hy=>(mZ hy).elim (fun q=>q▸O.tot _ _ hv) fun hy=>O.trans _ _ _ (O.tot _ _ hv) (h.1 y hy)) (.cons h.1 h.2)
    · rename_i hv
      exact .cons (fun y hy=>(mZ ((insBy_perm lt v r).mem_iff.mp hy)).elim (fun q=>q▸Bool.eq_false_iff.mpr hv) (h.1 y)) (insBy_sorted O v r h.2)
theorem sortBy_sorted {α:Type}{lt:α→α→Bool} (O:StrictO lt):∀ l:List α,(sortBy lt l).Pairwise (fun a b=>lt b a=false)
  | []=>.nil
  | v :: r=>insBy_sorted O v _ (sortBy_sorted O r)
theorem sortBy_unique {α:Type}{lt:α→α→Bool} (O:StrictO lt) {l m:List α} (hp:m.Perm l) (hs:m.Pairwise (fun a b=>lt b a=false)):m=sortBy lt l :=
  List.Perm.eq_of_pairwise (le:=fun a b=>lt b a=false) (fun a b _ _ h1 h2=>O.anti a b h2 h1) hs (sortBy_sorted O l) (hp.trans (sortBy_perm lt l).symm)
theorem intO:StrictO (fun a b:Int=>decide (a < b)) :=
  ⟨fun a b c h1 h2=>decide_eq_false (Int.not_lt.mpr (Int.le_trans (Int.not_lt.mp (of_decide_eq_false h1)) (Int.not_lt.mp (of_decide_eq_false h2)))),fun a b h=>decide_eq_false (Int.lt_asymm (of_decide_eq_true h)),
    fun a b h1 h2=>Int.le_antisymm (Int.not_lt.mp (of_decide_eq_false h2)) (Int.not_lt.mp (of_decide_eq_false h1))⟩
theorem natO:StrictO (fun a b:List Nat=>decide (a < b)) :=
  ⟨fun a b c h1 h2=>decide_eq_false (List.not_lt.mpr (List.le_trans (List.not_lt.mp (of_decide_eq_false h1)) (List.not_lt.mp (of_decide_eq_false h2)))),fun a b h=>decide_eq_false (List.not_lt.mpr (List.le_of_lt (of_decide_eq_true h))),
    fun a b h1 h2=>List.le_antisymm (List.not_lt.mp (of_decide_eq_false h2)) (List.not_lt.mp (of_decide_eq_false h1))⟩
theorem bltB_nat:∀ a b:List UInt8,bltB a b=decide (a.map UInt8.toNat < b.map UInt8.toNat)
  | [],[]=>by simp [bltB]
  | [],_ :: _=>by simp [bltB]
  | _ :: _,[]=>by simp [bltB]
  | a :: r,b :: t=>by
    unfold bltB
    simp only [List.map_cons,List.cons_lt_cons_iff]
    split
    · rename_i e
      subst e
      rw [bltB_nat r t]
      simp
    · rename_i e
      have:a.toNat≠b.toNat:=fun q=>e (UInt8.toNat_inj.mp q)
      simp only [this,false_and,or_false]
      rfl
theorem bytesO:StrictO bltB:=by
  rw [show bltB=fun a b=>decide (a.map UInt8.toNat < b.map UInt8.toNat) from funext fun a=>funext fun b=>bltB_nat a b]
  exact ⟨fun a b c=>natO.trans _ _ _,fun a b=>natO.tot _ _,fun a b h1 h2=>(List.map_inj_right fun _ _=>UInt8.toNat_inj.mp).mp (natO.anti _ _ h1 h2)⟩
theorem isort_map {α:Type}{lt:α→α→Bool}{f:α→V} (hf:∀ a b,ltP (f a) (f b)=lt a b) (ns:List α):isort (ns.map f)=(sortBy lt ns).map f:=by
  have hi:∀ (v:α) (l:List α),ins (f v) (l.map f)=(insBy lt v l).map f:=fun v l=>by
    induction l with
    | nil=>rfl
    | cons x r ih =>
      unfold insBy
      rw [List.map_cons]
      unfold ins
      rw [hf,ih]
      split<;>rfl
  induction ns with
  | nil=>rfl
  | cons v r ih=>rw [List.map_cons];unfold isort sortBy;rw [ih,hi]
theorem allInt_map:∀ {vs:List V},allInt vs=true→∃ ns:List Int,vs=ns.map .int
  | [],_=>⟨[],rfl⟩
  | v :: r,h=>by
    cases v with
    | int i=>exact (allInt_map (vs:=r) h).elim fun ns e=>⟨i :: ns,congrArg (V.int i :: ·) e⟩
    | _=>exact absurd h Bool.false_ne_true
theorem allBytes_map:∀ {vs:List V},allBytes vs=true→∃ ns:List (List UInt8),vs=ns.map .bytes
  | [],_=>⟨[],rfl⟩
  | v :: r,h=>by
    cases v with
    | bytes i=>exact (allBytes_map (vs:=r) h).elim fun ns e=>⟨i :: ns,congrArg (V.bytes i :: ·) e⟩
    | _=>exact absurd h Bool.false_ne_true
@[reducible] noncomputable def bKind:PyProof.Rows.KeyKind where
  α:=List Nat
  blt a b:=decide (a < b)
  irrefl a:=decide_eq_false (List.lt_irrefl a)
  trans a b c h1 h2:=decide_eq_true (List.lt_trans (of_decide_eq_true h1) (of_decide_eq_true h2))
  negTrans a b c h:=by
    by_cases hab:a < b
    · exact .inl (decide_eq_true hab)
    · exact .inr (decide_eq_true (List.lt_of_le_of_lt (List.not_lt.mp hab) (of_decide_eq_true h)))
  total a b h1 h2:=List.le_antisymm (List.not_lt.mp (of_decide_eq_false h2)) (List.not_lt.mp (of_decide_eq_false h1))
  keyOf v:=match v with | .bytes x _=>some (x.toList.map UInt8.toNat) | _=>none
  dflt:=[]
theorem slot_bytes_lt:Slot "bytes" (cmpInfo .Lt).2.1 "bytes.__lt__" :=
  .of (owner:="bytes") (n:="__lt__") (by rw [typeLookup_type,builtinLookup_eq_fast];kernel_rfl) (by decide +kernel) (by decide +kernel) (by decide +kernel)
    (by first | exact .inl (by decide +kernel) | exact .inr (by decide +kernel)) (by rw [isSubtype_type];kernel_rfl)
theorem entry_bytes_lt:entryFor table "bytes.__lt__" = some Builtin.«bytes.__lt__»:=entryFor_of_tree (by kernel_rfl)
theorem args_bytes_lt (a b:Value):argsOk "bytes.__lt__" ⟨[a,b],[]⟩:=by
  unfold argsOk;rw [signature?_of (id:="bytes.__lt__") (n:=['_','_','t','l','_','_']) (o:=['s','e','t','y','b']) (by kernel_rfl) FB.owner_bytes];kernel_rfl
theorem order_lt:∀ a b:List UInt8,(Builtin.Bytes.order a b == .lt)=decide (a.map UInt8.toNat < b.map UInt8.toNat)
  | [],[]=>by simp [Builtin.Bytes.order]
  | [],_ :: _=>by simp [Builtin.Bytes.order]
  | _ :: _,[]=>by simp [Builtin.Bytes.order]
  | x :: a,y :: b=>by
    simp only [Builtin.Bytes.order,List.map_cons,List.cons_lt_cons_iff]
    by_cases h1:x < y
    · have h1':x.toNat < y.toNat:=h1
      simp [h1,h1']
    · by_cases h2:x > y
      · have h2':y.toNat < x.toNat:=h2
        simp [h1,h2]
        omega
      · have:x=y:=UInt8.le_antisymm (UInt8.not_lt.mp h2) (UInt8.not_lt.mp h1)
        subst this
        simp [order_lt a b]
theorem gives_bytes_lt (b c:Array UInt8) (t u:Tok):Gives (Builtin.«bytes.__lt__» ⟨[.bytes b t,.bytes c u],[]⟩) (.val (.bool (decide (b.toList.map UInt8.toNat < c.toList.map UInt8.toNat)))):=by
  refine .of_wp fun M A E s Q hq=>?_
  show wpAny M A (isInstance (.bytes c u) (.type "bytes") >>= fun r=>_) _ E s
  exact wpAny_bind (wpAny_isInstance (typeIs_bytes s c u) F.sub_bytes_bytes (wpAny_pure ⟨_,rfl,by rw [← order_lt] at hq;exact hq⟩))
theorem bKind_oneLt:bKind.OneLt:=by
  intro prog w A E s x y a b Q ha hb h
  cases x with
  | bytes c t =>
    cases y with
    | bytes d u =>
      obtain rfl:=Option.some.inj ha
      obtain rfl:=Option.some.inj hb
      rw [oneLt'_eq,if_pos rfl]
      exact wpAny_bind (wpAny_cRoomFor_byValue rfl (wpAny_bind (wpAny_callSpecialIfBound?_slot (typeIs_bytes s c t) slot_bytes_lt (call_gives slot_bytes_lt (typeIs_bytes s c t) entry_bytes_lt (args_bytes_lt _ _) (gives_bytes_lt c d t u) (wpAny_truthy_bool h)))))
    | _=>exact False.elim (optK_of hb)
  | _=>exact False.elim (optK_of ha)
section
variable {G:Ctx}{A:Around}{E:Value→Shared→Prop}{t:St G}{ρ:List Addr}{h:Heap}{s:Shared}{n:Nat}{x:V}{a:Value}{K:V→AH→Prop}{Q:Value→Shared→Prop}
theorem ints_of:∀ {ns:List Int}{us:List Value},All2 (VRel G ρ h) (ns.map .int) us→IntsAre us ns
  | [],us,r=>r.none (C:=fun us=>IntsAre us []) .nil
  | i :: ns,us,r=>r.head (C:=fun us=>IntsAre us (i :: ns)) fun y m r1 r2=>r1.sees (C:=fun y=>IntsAre (y :: m) (i :: ns)) fun u=>.cons _ _ (ints_of r2)
theorem of_ints:∀ {ns:List Int}{us:List Value},IntsAre us ns→All2 (VRel G ρ h) (ns.map .int) us
  | _,_,.nil=>.nil
  | _,_,.cons i t r=>.cons (.int i t) (of_ints r)
theorem ints_sorted {ns ns':List Int}{us:List Value} (i1:IntsAre us ns') (i2:ns'.Perm ns) (i3:ns'.Pairwise (·≤·)):All2 (VRel G ρ h) (isort (ns.map .int)) us:=by
  rw [isort_map (lt:=fun a b=>decide (a < b)) (fun _ _=>rfl),← sortBy_unique intO i2 (i3.imp fun h=>decide_eq_false (Int.not_lt.mpr h))]
  exact of_ints i1
theorem sorted_ints_ok {a:Addr}{ns:List Int}{us:List Value}{m:Nat} (g:t.h.get? a=some (lstObj us.toArray m)) (r:RVs t (ns.map .int) us) (h64:ns.length < 64)
    (e:K (.ref t.H.length) (t.H++[.list (isort (ns.map .int))])) (hq:To RV t K Q):wpAny (model pw G.w) A (call (.builtin "sorted") [.ref a]) Q E t.s :=
  have hI:=ints_of r
  sorted_ints (lstObj_is g) hI (by rw [hI.length];exact h64) fun out ns' i1 i2 i3=>(sortedAll_at t.h us out).elim fun c he =>
    hq.newListAt (tk:=t.s.toks) (fun _ _=>sortedAll_old) (new_none_at _ 1) he (fun _ L=>ints_sorted i1 i2 i3) e
noncomputable def octOf (x:Value):List UInt8:=match x with
  | .bytes b _=>b.toList
  | _=>[]
noncomputable def isOct (x:Value):Prop:=∃ b t,x = .bytes b t
theorem octets:∀ {bs:List (List UInt8)}{us:List Value},All2 (VRel G ρ h) (bs.map .bytes) us→us.map octOf=bs∧∀ v,v∈us→isOct v
  | [],us,r=>r.none (C:=fun us=>us.map octOf=[]∧∀ v,v∈us→isOct v) ⟨rfl,fun _ m=>(nomatch m)⟩
  | b :: bs,us,r=>r.head (C:=fun us=>us.map octOf=b :: bs∧∀ v,v∈us→isOct v) fun y m r1 r2=>r1.sees (C:=fun y=>(y :: m).map octOf=b :: bs∧∀ v,v∈y :: m→isOct v) fun u =>
      ⟨congrArg (b :: ·) (octets r2).1,fun v hv=>(mZ hv).elim (fun q=>⟨_,_,q⟩) ((octets r2).2 v)⟩
theorem of_octets:∀ {us:List Value},(∀ v,v∈us→isOct v)→All2 (VRel G ρ h) ((us.map octOf).map .bytes) us
  | [],_=>.nil
  | v :: r,k=>.cons (by obtain ⟨b,t,rfl⟩:=k v (List.mem_cons_self ..);exact .bytes b.toList t) (of_octets fun u hu=>k u (List.mem_cons_of_mem _ hu))
theorem mapM_first_bytes:∀ {vs:List Value},(∀ v,v∈vs→isOct v)→vs.mapM firstOfTuple'=pure (vs.map fun _=>none)
  | [],_=>List.mapM_nil
  | v :: vs,k=>by
    obtain ⟨b,t,rfl⟩:=k v (List.mem_cons_self ..)
    rw [List.mapM_cons,show firstOfTuple' (.bytes b t)=pure none from rfl,mapM_first_bytes fun u hu=>k u (List.mem_cons_of_mem _ hu)];simp
theorem mapM_typeOf_bytes:∀ {vs:List Value},(∀ v,v∈vs→isOct v)→vs.mapM typeOf=pure (vs.map fun _=>Value.type "bytes")
  | [],_=>List.mapM_nil
  | v :: vs,k=>by
    obtain ⟨b,t,rfl⟩:=k v (List.mem_cons_self ..)
    rw [List.mapM_cons,mapM_typeOf_bytes fun u hu=>k u (List.mem_cons_of_mem _ hu),show typeOf (.bytes b t)=pure (.type "bytes") from rfl];simp
theorem keyKind_bytes {v₁ v₂:Value}{vs:List Value} (hS:∀ v,v∈v₁ :: v₂ :: vs→isOct v):keyKind' (v₁ :: v₂ :: vs).toArray=pure oneType':=by
  rw [keyKind'_eq,List.mapM_toArray,mapM_first_bytes hS]
  simp only [map_pure,pure_bind]
  rw [if_neg (by simp),if_neg (by simp)]
  rw [oneTypeOnly'_eq,List.mapM_toArray,mapM_typeOf_bytes hS]
  simp only [map_pure,pure_bind]
  have hall:((List.map (fun _=>Value.type "bytes") (v₁ :: v₂ :: vs)).toArray.all fun x=>x == Value.type "bytes")=true:=by
    simp only [List.all_toArray,List.all_map,List.all_eq_true]
    intro _ _
    rfl
  rw [show (List.map (fun _=>Value.type "bytes") (v₁ :: v₂ :: vs)).toArray[0]?=some (Value.type "bytes") from rfl]
  simp only [hall,if_true,pure_bind,Option.isSome_some]
theorem KK_bytes {xs:Array Keyed}{i:Nat} (hi:i < xs.size) (o:isOct xs[i].1):KK bKind xs i=(octOf xs[i].1).map UInt8.toNat:=by
  unfold KK;rw [getElem?_pos xs i hi]
  obtain ⟨b,t,e⟩:=o
  show (bKind.keyOf xs[i].1).getD _=_
  rw [e];rfl
theorem sorted_bytes_ok {a:Addr}{bs:List (List UInt8)}{us:List Value}{m:Nat} (g:t.h.get? a=some (lstObj us.toArray m)) (r:RVs t (bs.map .bytes) us) (h64:bs.length < 64)
    (e:K (.ref t.H.length) (t.H++[.list (isort (bs.map .bytes))])) (hq:To RV t K Q):wpAny (model pw G.w) A (call (.builtin "sorted") [.ref a]) Q E t.s:=by
  obtain ⟨hO,hS⟩:=octets r
  have hlen:us.length=bs.length:=by rw [← hO,List.length_map]
  refine sortedK bKind_oneLt (lstObj_is g) (fun p hp=>?_) (fun v₁ v₂ rest e=>keyKind_bytes (by rw [← e];exact hS)) (by rw [hlen];exact h64) fun st' hp hs=>?_
  · rw [pairsOf_toList] at hp
    obtain ⟨x,u,e⟩:=hS _ (mem_zip_self hp).2
    exact ⟨x.toList.map UInt8.toNat,by rw [e]⟩
  generalize hxs:arrOf st'=xs at hp hs
  have hl:xs.toList.Perm (us.zip us):=by rw [← pairsOf_toList];exact Array.perm_iff_toList_perm.mp hp
  have hmem:∀ p,p∈xs.toList→p.1=p.2∧p.1∈us:=fun p hp'=>mem_zip_self (hl.mem_iff.mp hp')
  have e1:(xs.map (·.2)).toList=xs.toList.map (·.1):=by
    rw [Array.toList_map];exact List.map_congr_left fun p hp'=>(hmem p hp').1.symm
  have hperm:((xs.map (·.2)).toList.map octOf).Perm bs:=by
    rw [e1,← hO]
    have:=hl.map (·.1)
    rw [List.map_fst_zip (Nat.le_refl _)] at this
    exact this.map _
  have hsort:((xs.map (·.2)).toList.map octOf).Pairwise (fun a b=>bltB b a=false):=by
    rw [e1,List.map_map,List.pairwise_iff_getElem]
    intro i j hi hj hij
    have hi':i < xs.size:=by simpa using hi
    have hj':j < xs.size:=by simpa using hj
    have h1:=hs i j (Nat.le_of_lt hij) (by rw [← hp.size_eq];exact hj')
    rw [KK_bytes hi' (hS _ (hmem xs[i] (by simp)).2),KK_bytes hj' (hS _ (hmem xs[j] (by simp)).2)] at h1
    rw [bltB_nat,List.getElem_map,List.getElem_map,Array.getElem_toList,Array.getElem_toList]
    exact h1
  obtain ⟨c,he⟩:=sortedAll_at t.h us (xs.map (·.2))
  refine hq.newListAt (us:=(xs.map (·.2)).toList) (tk:=t.s.toks) (fun _ _=>sortedAll_old) (new_none_at _ 1) he (fun _ L=>?_) e
  rw [isort_map (lt:=bltB) (fun _ _=>rfl),← sortBy_unique bytesO hperm hsort]
  exact of_octets fun v hv=>by
    rw [e1] at hv
    obtain ⟨p,hp',rfl⟩:=List.mem_map.mp hv
    exact hS _ (hmem p hp').2
theorem kvI {kvs:List (Mine.K × V)}{l:List (Int × Value)} (q:KvR G ρ h kI kvs l):kvs.map (·.1.val)=(l.map (·.1)).map V.int:=by
  unfold KvR at q
  induction q with
  | nil=>rfl
  | cons e _ ih=>rw [List.map_cons,List.map_cons,List.map_cons,ih,e.1];rfl
theorem dict_ints {kvs:List (Mine.K × V)}{a:Addr} (D:DictR G ρ h kvs a) (al:allInt (kvs.map (·.1.val))=true):(knI G.w).In G ρ h kvs a:=by
  have:∀ (d:Knd G.w),(∀ j:d.κ,allInt [(d.f j).val]=false)→d.In G ρ h kvs a→(knI G.w).In G ρ h kvs a:=fun d hd D=>by
    obtain ⟨l,h1,h2⟩:=D
    cases h2 with
    | nil=>exact ⟨[],@DictOf.nil_any _ _ _ _ d.dec (knI G.w).dec _ _ _ h1,.nil⟩
    | @cons p q kvs _ e _ =>
      rw [List.map_cons,e.1] at al
      have:=hd q.1
      revert al this
      cases (d.f q.1).val<;>intro al this<;>first | exact absurd al Bool.false_ne_true | exact absurd this.symm Bool.false_ne_true
  exact D.elim (this _ fun _=>rfl) fun D=>D.elim id (this _ fun _=>rfl)
theorem sorted_dict_ok {i:Nat}{a:Addr}{kvs:List (Mine.K × V)} (R:Room A n) (ha:t.ρ[i]?=some a) (D:DictR G t.ρ t.h kvs a) (al:allInt (kvs.map (·.1.val))=true) (h64:kvs.length < 64)
    (e:K (.ref t.H.length) (t.H++[.list (isort (kvs.map (·.1.val)))])) (hq:To RV t K Q):wpAny (model pw G.w) A (call (.builtin "sorted") [.ref a]) Q E t.s:=by
  obtain ⟨l,h1,h2⟩:DictIn G t.ρ t.h (PySem.intKind pw G.w) kI kvs a:=dict_ints D al
  obtain ⟨ep,hat⟩:=h1.dictAt
  have hll:=All2.len h2
  refine call_function_entry kind_sorted plain_sorted entry_sorted (args_sorted1 _) ?_
  unfold Builtin.«sorted»
  refine wpAny_bind (m:=checkCount "sorted" 1 1 _) (wpAny_pure ?_)
  refine wpAny_bind (kdu_collect (A:=A.in1) (kdl_dict (knd:=PySem.intKind pw G.w) (kvs:=l) (ep:=ep) (t.sim.mods (List.mem_of_getElem? ha))) R.handled hat (by rw [← hll];exact Nat.le_trans (Nat.le_of_lt h64) (by decide)) fun h' tk acc hk hacc=>?_)
  have hI:IntsAre acc.toList (l.map (·.1)):=by
    have key:∀ (us:List Value) (l:List (Int × Value)),us.length=l.length→(∀ (j:Nat) (v:Value),us[j]?=some v→∃ (k:Int) (x:Value),l[j]?=some (k,x)∧(PySem.intKind pw G.w).is k v=true)→IntsAre us (l.map (·.1)):=by
      intro us
      induction us with
      | nil=>intro l e _;rw [List.eq_nil_of_length_eq_zero e.symm];exact .nil
      | cons u us ih =>
        intro l e k
        obtain ⟨p,l,rfl⟩:=List.exists_cons_of_length_eq_add_one e.symm
        obtain ⟨k',x,e1,e2⟩:=k 0 u rfl
        obtain rfl:=Option.some.inj e1
        obtain ⟨t,rfl⟩:=Value.isInt_shape e2
        exact .cons _ _ (ih l (Nat.succ.inj e) fun j v=>k (j+1) v)
    exact key _ _ (by rw [Array.length_toList];exact hacc.1) fun j v e=>hacc.2 j v (by rw [← Array.getElem?_toList];exact e)
  have hlen:acc.toList.length < 64:=by rw [Array.length_toList,hacc.1,← hll];exact h64
  refine wpAny_bind (wpAny_newList ?_ (Nat.le_trans (Nat.le_of_lt hlen) (by decide)))
  have hoL:(h'.push (seqObj "list" acc.toList.toArray 0)).get? h'.objs.size=some (seqObj "list" acc.toList.toArray 0):=Heap.get?_push_size _ rfl
  refine wpAny_bind (wpAny_holding (wpAny_call_entry (s:={ t.s with heap:=h'.push (seqObj "list" acc.toList.toArray 0),toks:=tk }) slot_list_sort ⟨_,hoL,rfl⟩ entry_list_sort (list_sort_tree hoL hI hlen fun out ns' a1 a2 a3=>⟨_,rfl,?_⟩) (args_list_sort _)))
  refine wpAny_pure ⟨_,rfl,?_⟩
  have hsz:t.h.get? h'.objs.size=none:=by
    cases q:t.h.get? h'.objs.size with
    | none=>rfl
    | some o=>exact absurd (Heap.lt_size (hk _ _ q)) (Nat.lt_irrefl _)
  obtain ⟨c,he⟩:=sortedHeap_at (n:=0) (out:=out) hoL
  refine hq.newListAt (tk:=tk) (fun b o q=>?_) hsz he (fun _ L=>by rw [kvI h2];exact ints_sorted a1 a2 a3) e
  rw [sortedHeap_old (Nat.ne_of_lt (Heap.lt_size (hk _ _ q))) (by rw [size_push'];exact Nat.lt_succ_of_lt (Heap.lt_size (hk _ _ q)))]
  exact Heap.get?_push_of_some _ (hk _ _ q)
theorem sortedV_ok (R:Room A n) (hx:RV t x a) (e:sortedV x t.H K) (hq:To RV t K Q):wpAny (model pw G.w) A (call (.builtin "sorted") [a]) Q E t.s:=by
  apply St.onObj hx e
  · intro _ _ us _ vs e _ g r
    refine (bO e.1.1).elim (fun h=>?_) fun h=>?_
    · obtain ⟨ns,rfl⟩:=allInt_map h
      exact sorted_ints_ok g r (List.length_map (as:=ns) V.int▸e.1.2) e.2.2 hq
    · obtain ⟨ns,rfl⟩:=allBytes_map h
      exact sorted_bytes_ok g r (List.length_map (as:=ns) V.bytes▸e.1.2) e.2.2 hq
  · exact fun _ _ _ e ha D=>sorted_dict_ok R ha D e.1.1 e.1.2 e.2.2 hq
end
theorem maxInts_spec:∀ {vs:List V}{m:Int},maxInts vs=some m→∃ ns:List Int,vs=ns.map .int∧m∈ns∧∀ a,a∈ns→a≤m:=by
  intro vs
  induction vs with
  | nil=>exact fun e=>False.elim (optK_of e)
  | cons v r ih =>
    intro m e
    cases v with
    | int a =>
      cases r with
      | nil=>exact ⟨[a],rfl,Option.some.inj e▸List.mem_singleton_self a,fun b hb=>Option.some.inj e▸Int.le_of_eq (mS hb)⟩
      | cons v r =>
        obtain ⟨k,e1,e2⟩:=Option.map_eq_some_iff.mp (show (maxInts (v :: r)).map (fun m=>if a < m then m else a)=some m from e)
        obtain ⟨ns,e3,e4,e5⟩:=ih e1
        by_cases h:a < k
        · rw [if_pos h] at e2;subst e2
          exact ⟨a :: ns,by rw [e3];rfl,List.mem_cons_of_mem _ e4,fun b hb=>(mZ hb).elim (fun q=>q▸Int.le_of_lt h) (e5 b)⟩
        · rw [if_neg h] at e2;subst e2
          exact ⟨a :: ns,by rw [e3];rfl,List.mem_cons_self ..,fun b hb=>(mZ hb).elim Int.le_of_eq fun q=>Int.le_trans (e5 b q) (Int.not_lt.mp h)⟩
    | _=>exact False.elim (optK_of e)
section
variable {G:Ctx}{A:Around}{E:Value→Shared→Prop}{t:St G}{ρ:List Addr}{h:Heap}{s:Shared}{n:Nat}{x y:V}{a b:Value}{K:V→AH→Prop}{Q:Value→Shared→Prop}
theorem maxV_ok (R:Room A n) (hx:RV t x a) (e:maxV x t.H K) (hq:To RV t K Q):wpAny (model pw G.w) A (call (.builtin "max") [a]) Q E t.s:=by
  apply St.onList hx e;intro _ _ us _ vs e _ g r
  refine optK.elim e fun m h q=>?_
  obtain ⟨ns,rfl,hm,hle⟩:=maxInts_spec h
  have hi:=ints_of r
  obtain ⟨xs,e5⟩:=hi.allInts.items
  have hns:ns=xs.toList.map (·.1):=by rw [← hi.numsOf,← nums_intItems,← e5]
  have hl:ns.length=xs.size:=by rw [hns,List.length_map,Array.length_toList]
  have hsz:0 < xs.size:=hl▸List.length_pos_of_mem hm
  have g:=lstObj_is g
  rw [e5] at g
  refine max_intList R.handled g hsz fun v h' tk hv hk=>?_
  obtain ⟨u,rfl⟩:=intItems_at hv
  obtain ⟨h1,h2⟩:=argBest_gt (numAt xs) (xs.size - 1)
  have a1:numAt xs (argBest (fun i j=>decide (numAt xs i > numAt xs j)) (xs.size - 1))∈ns:=by
    rw [numAt_eq,← hns];exact getD_mem (by rw [hl];exact Nat.lt_of_le_of_lt h1 (Nat.sub_lt hsz Nat.one_pos))
  have a2:m≤numAt xs (argBest (fun i j=>decide (numAt xs i > numAt xs j)) (xs.size - 1)):=by
    obtain ⟨j,hj,q'⟩:=mem_getD hm
    rw [← q',hns,← numAt_eq];exact h2 j (Nat.le_sub_one_of_lt (hl▸hj))
  rw [Int.le_antisymm (hle _ a1) a2]
  exact hq.grown hk q fun _=>.int _ _
theorem bool_of {v:V}{y:Value}{u:List Nat} (r:VRel G ρ h v y) (e:boolText v=some u):∃ b:Bool,y = .bool b∧boolText (.bool b)=some u:=by
  apply r.sees (C:=fun y=>∃ b:Bool,y = .bool b∧boolText (.bool b)=some u)
  cases v with
  | bool b=>exact ⟨_,rfl,e⟩
  | _=>exact False.elim (optK_of e)
theorem two_bools (b1 b2:Bool) {t1 t2:List Nat} (e1:boolText (.bool b1)=some t1) (e2:boolText (.bool b2)=some t2):(PyData.list [.bool b1,.bool b2]).shown=toStr ([91]++commaL [t1,t2]++[93]):=by
  cases b1<;>cases b2<;>cases e1<;>cases e2<;>decide +kernel
theorem repr_ok (R:Room A n) (hx:RV t x a) (e:reprV x t.H K) (hq:To RV t K Q):wpAny (model pw G.w) A (call (.builtin "repr") [a]) Q E t.s:=by
  apply St.onList hx e;intro _ a us _ vs e _ g r
  refine optK.elim e.2 fun ts h q=>?_
  have m:=r.both (S:=fun v b=>boolText v=some b) (T:=fun y u=>∃ b:Bool,y = .bool b∧boolText (.bool b)=some u) (fun _ _ _=>bool_of) (All2.mapM h)
  have hl:=e.1
  obtain ⟨t1,r1,rfl⟩:=List.exists_cons_of_length_eq_add_one (show ts.length=1+1 by rw [← m.len,← r.len];exact hl)
  obtain ⟨t2,r2,rfl⟩:=List.exists_cons_of_length_eq_add_one (show r1.length=0+1 from Nat.succ.inj (m.len.symm.trans (r.len.symm.trans hl)))
  obtain rfl:=List.eq_nil_of_length_eq_zero (show r2.length=0 from Nat.succ.inj (Nat.succ.inj (m.len.symm.trans (r.len.symm.trans hl))))
  revert g
  apply m.swap.two
  rintro _ _ ⟨b1,rfl,e1⟩ ⟨b2,rfl,e2⟩ g
  refine repr_of_reads' (Reads.list g rfl rfl (.cons (.bool b1) (.cons (.bool b2) .nil))) (by cases b1<;>cases b2<;>rfl) (fun q=>by cases b1<;>cases b2<;>cases q) R.guards ?_ (fun _ _ e=>e) (fun h' u tk hk=>?_) ?_
  · have:PyData.depth (.list [.bool b1,.bool b2])≤10:=by cases b1<;>cases b2<;>decide
    exact Nat.lt_of_le_of_lt (Nat.add_le_add_left (Nat.le_trans (Nat.add_le_add_right (Nat.mul_le_mul_left _ this) _) (by decide:_≤64)) _) R.u64
  · rw [two_bools b1 b2 e1 e2]
    exact hq.grown hk q fun _=>.str _ _
  · cases b1<;>cases b2<;>decide +kernel
theorem glued_nil (ls:List (List Nat)):Builtin.Str.glued (toStr []) (ls.map toStr)=toStr ls.flatten:=by
  have key:∀ (ls:List (List Nat)) (acc:Array Nat),(ls.map toStr).foldl (fun acc p=>acc++(toStr []).cps++p.cps) acc=acc++ls.flatten.toArray:=by
    intro ls
    induction ls with
    | nil=>intro acc;exact (Array.append_empty ..).symm
    | cons x r ih=>intro acc;rw [List.map_cons,List.foldl_cons,ih,List.flatten_cons];simp [toStr]
  cases ls with
  | nil=>rfl
  | cons x r =>
    unfold Builtin.Str.glued
    simp only [List.map_cons,List.drop_succ_cons,List.drop_zero,List.headD_cons]
    rw [key]
    simp [toStr]
theorem strOf_ok {v:V}{y:Value}{c:List Nat} (r:VRel G ρ h v y) (e:strOf v=some c):∃ t,y = .str (toStr c) t:=by
  replace e:=optK_of e
  apply r.sees (C:=fun y=>∃ t,y = .str (toStr c) t)
  cases v with
  | str b=>exact fun t=>⟨t,by rw [show b=c from e]⟩
  | _=>exact False.elim e
theorem strs_of {us:List Value}{ls:List (List Nat)} (r:All2 (fun y c=>∃ t,y = .str (toStr c) t) us ls):∃ l:List (PySem.Str × Tok),us=strValues l∧l.map (·.1)=ls.map toStr:=by
  induction r with
  | nil=>exact ⟨[],rfl,rfl⟩
  | cons e _ ih =>
    obtain ⟨t,rfl⟩:=e
    obtain ⟨l,rfl,h⟩:=ih
    exact ⟨(toStr _,t) :: l,rfl,congrArg (toStr _ :: ·) h⟩
theorem total_nil:∀ (ls:List (List Nat)) (k:Nat),((ls.map toStr).foldl (·+·.length+(toStr []).length) k)=k+ls.flatten.length
  | [],k=>rfl
  | x :: r,k=>by
    rw [List.map_cons,List.foldl_cons,total_nil r,List.flatten_cons,List.length_append,← Nat.add_assoc]
    rfl
theorem join_str_ok {a:Addr}{us:List Value}{m:Nat}{vs:List V}{u:Tok} (g:t.h.get? a=some (lstObj us.toArray m)) (r:RVs t vs us) (e:optK (vs.mapM strOf) fun bs=>bs.flatten.length≤lim∧K (.str bs.flatten) t.H)
    (hq:To RV t K Q):wpAny (model pw G.w) A (call (.builtin "str.join") [.str (toStr []) u,.ref a]) Q E t.s:=by
  refine optK.elim e fun ls h e=>(strs_of (r.both (S:=fun v b=>strOf v=some b) (T:=fun y c=>∃ t,y = .str (toStr c) t) (fun _ _ _=>strOf_ok) (All2.mapM h))).elim fun l hl=>?_
  rw [hl.1] at g
  refine SC.join (texts:=ls.map toStr) (lstObj_is g) hl.2 ?_ fun t' k=>?_
  · unfold JoinOk Builtin.Str.tooLong
    rw [List.foldl_toArray' (h:=rfl),total_nil]
    simp only [Nat.zero_add,Bool.not_eq_true',decide_eq_false_iff_not,Nat.not_lt]
    exact lim_size e.1
  · unfold Txt.join
    rw [glued_nil]
    exact hq.tok e.2 (.str _ _)
end
theorem slot_bytes_join:Slot "bytes" "join" "bytes.join" :=
  .of (owner:="bytes") (n:="join") (by rw [typeLookup_type,builtinLookup_eq_fast];kernel_rfl) (by decide +kernel) (by decide +kernel) (by decide +kernel)
    (by first | exact .inl (by decide +kernel) | exact .inr (by decide +kernel)) (by rw [isSubtype_type];kernel_rfl)
theorem type_bytes_join:typeOf (.builtin "bytes.join")=pure (.type "method_descriptor"):=by show builtinType _=_;rw [builtinType_eq_fast];kernel_rfl
theorem entry_bytes_join:entryFor table "bytes.join" = some Builtin.«bytes.join»:=entryFor_of_tree (by kernel_rfl)
theorem args_bytes_join (a b:Value):argsOk "bytes.join" ⟨[a,b],[]⟩:=by
  unfold argsOk;rw [signature?_of (id:="bytes.join") (n:=['n','i','o','j']) (o:=['s','e','t','y','b']) (by kernel_rfl) FB.owner_bytes];kernel_rfl
theorem buffer_eq' {id:String}{b:Array UInt8}{t:Tok}{f:Bool}:Builtin.Bytes.buffer? id (.bytes b t) f=pure (some b):=by
  unfold Builtin.Bytes.buffer?
  rw [KBy.special_eq KBy.look_buffer,KBy.own_buffer,KBy.own_release]
  kernel_rfl
theorem take_eq {id:String}{b:Array UInt8}{t:Tok}:Builtin.Bytes.takeBufferQuiet? id (.bytes b t) 0=pure (some (b,none)):=by
  have e:Builtin.Bytes.takeBuffer? id (.bytes b t) 0=pure (some (b,none)):=by
    unfold Builtin.Bytes.takeBuffer?
    rw [KBy.special_eq KBy.look_buffer,KBy.own_buffer,buffer_eq']
    rfl
  unfold Builtin.Bytes.takeBufferQuiet?
  rw [e]
  rfl
section
variable {prog:Program}{w:World}{A:Around}{E:Value→Shared→Prop}{s:Shared}
noncomputable abbrev JSt:=Array (Array UInt8) × List (Value × Option Value)
theorem joinLetGo_none {Q:Unit→Shared→Prop}{keep:List Value} (h:Q () s):∀ l:List (Value × Option Value),(∀ p∈l,p.2=none)→wpAny (model prog w) A (Builtin.Bytes.joinLetGo l keep) Q E s:=by
  intro l
  induction l with
  | nil=>exact fun _=>wpAny_pure h
  | cons p r ih =>
    intro k
    obtain ⟨x,w'⟩:=p
    obtain rfl:w'=none:=k (x,w') (List.mem_cons_self ..)
    exact wpAny_bind (wpAny_letGo (ih fun p hp=>k p (List.mem_cons_of_mem _ hp)))
noncomputable def JInv (l:List Value) (b:JSt):Prop:=b.1.toList=l.map (fun v=>(octOf v).toArray)∧∀ p∈b.2,p.2=none∧p.1.onHeap=false
theorem join_loop {items:Array Value}{Q:Fin→Shared→Prop}{f:Nat→JSt→Sem (ForInStep JSt)}{K:JSt→Sem Fin} (hb:∀ v,v∈items.toList→isOct v)
    (hf:∀ i st (Q':ForInStep JSt→Shared→Prop) b u,items[i]?=some (.bytes b u)→(∀ p∈st.2,p.1.onHeap=false)→Q' (.yield (st.1.push b,st.2++[(.bytes b u,none)])) s→wpAny (model prog w) A (f i st) Q' E s)
    (hK:∀ st,JInv items.toList st→wpAny (model prog w) A (K st) Q E s):wpAny (model prog w) A (forIn [:items.size] (#[],[]) f >>= K) Q E s:=by
  refine wpAny_bind ?_
  rw [Std.Legacy.Range.forIn_eq_forIn_range',show (Std.Legacy.Range.size [:items.size])=items.size by simp [Std.Legacy.Range.size]]
  have go:∀ (n k:Nat) (st:JSt),k+n=items.size→JInv (items.toList.take k) st→wpAny (model prog w) A (forIn (List.range' k n) st f) (fun st s'=>wpAny (model prog w) A (K st) Q E s') E s:=by
    intro n
    induction n with
    | zero=>exact fun k st e h=>wpAny_pure (hK st (by rw [List.take_of_length_le (show items.toList.length≤k from Nat.le_of_eq e.symm)] at h;exact h))
    | succ n ih =>
      intro k st e h
      have hk:k < items.size:=by omega
      obtain ⟨b,u,e'⟩:=hb items[k] (Array.getElem_mem_toList hk)
      rw [List.range'_succ,List.forIn_cons]
      refine wpAny_bind (hf k st _ b u (e'▸Array.getElem?_eq_getElem hk) (fun p hp=>(h.2 p hp).2) (ih (k+1) _ (by omega) ⟨?_,fun p hp=>(mA hp).elim (h.2 p) fun hp=>by rw [mS hp];exact ⟨rfl,rfl⟩⟩))
      rw [Array.toList_push,h.1,List.take_add_one,Array.getElem?_toList,Array.getElem?_eq_getElem hk,e',List.map_append]
      rfl
  exact go items.size 0 (#[],[]) (Nat.zero_add _) ⟨rfl,fun _ m=>nomatch m⟩
theorem joined_nil (l:List Value):Builtin.Bytes.joined #[] (l.map fun v=>(octOf v).toArray)=((l.map octOf).flatten).toArray:=by
  unfold Builtin.Bytes.joined
  have key:∀ (l:List Value) (k:Nat) (acc:Array UInt8),((l.map fun v=>(octOf v).toArray).zipIdx k).foldl (fun out (p,i)=>(if i > 0 then out++#[] else out)++p) acc=acc++(l.map octOf).flatten.toArray:=by
    intro l
    induction l with
    | nil=>intro k acc;simp
    | cons v r ih=>intro k acc;simp only [List.map_cons,List.zipIdx_cons,List.foldl_cons,ih,List.flatten_cons];simp
  have:=key l 0 #[]
  rw [Array.empty_append] at this
  exact this
theorem total_bytes (l:List Value) (k:Nat):(l.map fun v=>(octOf v).toArray).foldl (·+·.size) k=k+(l.map octOf).flatten.length:=by
  induction l generalizing k with
  | nil=>rfl
  | cons v r ih=>rw [List.map_cons,List.foldl_cons,ih,List.map_cons,List.flatten_cons,List.length_append,← Nat.add_assoc];rfl
theorem match_arr {M:Model}{α:Type}{items:Array Value}{c:Value→Sem α}{d:Sem α}{Q:α→Shared→Prop} (h1:∀ x,items=#[x]→wpAny M A (c x) Q E s) (h2:wpAny M A d Q E s):wpAny M A (match items with | #[x]=>c x | _=>d) Q E s:=by
  obtain ⟨l⟩:=items
  cases l with
  | nil=>exact h2
  | cons x r=>cases r with
    | nil=>exact h1 x rfl
    | cons=>exact h2
theorem bytes_join_tree {t:Tok}{a:Addr}{items:Array Value}{n:Nat}{Q:Fin→Shared→Prop} (ho:s.heap.get? a=some (lstObj items n)) (hb:∀ v,v∈items.toList→isOct v)
    (hle:((items.toList.map octOf).flatten).length≤sizeLine) (hq:∀ t' k,Q (.done (.ret (.bytes (items.toList.map octOf).flatten.toArray t'))) { s with toks:=k }) :
    wpAny (model prog w) A (Builtin.«bytes.join» ⟨[.bytes #[] t,.ref a],[]⟩) Q E s:=by
  have hsi:∀ {Q':Option (Array Value)→Shared→Prop},Q' (some items) s→wpAny (model prog w) A (seqItems? (.ref a)) Q' E s:=fun hq'=>wpAny_bind (m:=load a) (wpAny_load ho (wpAny_pure hq'))
  unfold Builtin.«bytes.join» Builtin.Bytes.joinM
  refine wpAny_bind (wpAny_pure (bm_if_true rfl (wpAny_bind (wpAny_bind (m:=typeOf (.ref a)) (wpAny_typeOf (lstObj_is ho).typeIs (bm_if_true rfl (wpAny_pure (wpAny_bind (hsi (bm_if_true rfl ?_)))))))))) 
  refine match_arr (fun x e=>?_) ?_
  · subst e
    obtain ⟨b,u,rfl⟩:=hb x (List.mem_singleton_self x)
    refine wpAny_bind (wpAny_typeOf (typeIs_bytes s b u) (bm_if_true rfl (wpAny_bind (wpAny_rule (wpAny_pure ?_)))))
    have:=hq u s.toks
    rw [show ((#[Value.bytes b u].toList.map octOf).flatten).toArray=b by show (b.toList++[]).toArray=b;rw [List.append_nil]] at this
    exact this
  · refine join_loop hb (fun i st Q' b u hi hst hq'=>?_) fun st h=>?_
    · refine wpAny_bind (hsi ?_)
      have hg:items.getD i .none = .bytes b u:=by rw [Array.getD_eq_getD_getElem?,hi];rfl
      have hany:(st.2.any fun x=>x.1.onHeap)=false:=List.any_eq_false.mpr fun p hp=>by rw [hst p hp];exact Bool.false_ne_true
      refine bm_if_false (by rw [hany];rfl) (wpAny_bind (wpAny_holding ?_))
      rw [hg,take_eq]
      exact wpAny_pure (wpAny_bind (hsi (bm_if_false (bne_self_eq_false _) (wpAny_pure hq'))))
    · refine wpAny_bind (wpAny_pure (bm_if_false ?_ (wpAny_bind (m:=mkBytes _) (wpAny_mkBytes (wpAny_bind (wpAny_holding (wpAny_point (wpAny_bind (joinLetGo_none (wpAny_pure ?_) _ fun p hp=>(h.2 p hp).1))))) ?_))))
      · rw [← Array.foldl_toList,h.1,total_bytes]
        unfold Builtin.Bytes.tooLong
        simpa using hle
      · rw [h.1,joined_nil];exact hq _ _
      · rw [h.1,joined_nil];exact hle
end
section
variable {G:Ctx}{A:Around}{E:Value→Shared→Prop}{t:St G}{ρ:List Addr}{h:Heap}{s:Shared}{n:Nat}{x y:V}{a b:Value}{K:V→AH→Prop}{Q:Value→Shared→Prop}
theorem bytes_of:∀ {vs:List V}{bs:List (List UInt8)},All2 (fun v b=>bytesOf v=some b) vs bs→vs=bs.map .bytes:=by
  intro vs bs r
  induction r with
  | nil=>rfl
  | @cons v b _ _ e _ ih =>
    rw [ih,List.map_cons]
    replace e:=optK_of e
    cases v with
    | bytes c=>rw [show c=b from e]
    | _=>exact False.elim e
theorem join_bytes_ok {a:Addr}{us:List Value}{m:Nat}{vs:List V}{u:Tok} (g:t.h.get? a=some (lstObj us.toArray m)) (r:RVs t vs us) (e:optK (vs.mapM bytesOf) fun bs=>bs.flatten.length≤lim∧K (.bytes bs.flatten) t.H)
    (hq:To RV t K Q):wpAny (model pw G.w) A (call (.builtin "bytes.join") [.bytes #[] u,.ref a]) Q E t.s:=by
  refine optK.elim e fun bs h q=>?_
  obtain rfl:=bytes_of (All2.mapM h)
  have ho:=octets r
  refine wpAny_call_entry slot_bytes_join (typeIs_bytes t.s _ u) entry_bytes_join (bytes_join_tree g ho.2 (by rw [ho.1];exact lim_size q.1) fun t' k=>⟨_,rfl,?_⟩) (args_bytes_join _ _)
  rw [ho.1]
  exact hq.tok q.2 (.bytes _ _)
end
section
variable {w:World}{A:Around}{E:Value→Shared→Prop}{s:Shared}
noncomputable def GetI (s:Shared) (a:Value):Prop:=∃ T id,s.TypeIs a T∧typeLookup (.type T) "__getitem__" = pure (some (.builtin id))
theorem sliceApplied_two {sl:Addr}{u:Tok}{Q:Int × Int × Nat→Shared→Prop} (hs:s.heap.IsSliceOf sl .none (.int 2 u) .none) (h:Q (0,1,2) s) :
    wpAny (model pw w) A (Builtin.Slice.sliceApplied (.ref sl) (pure ((3:Nat):Int))) Q E s:=by
  obtain ⟨os,hos,hcs,hds⟩:=hs
  unfold Builtin.Slice.sliceApplied Builtin.Slice.sliceFields
  refine wpAny_bind (wpAny_bind (wpAny_field hos hds (x:=.none) rfl (wpAny_bind (wpAny_field hos hds (x:=.int 2 u) rfl (wpAny_bind (wpAny_field hos hds (x:=.none) rfl (wpAny_pure ?_)))))))
  refine wpAny_bind (slicePart_none (bm_if_false (by decide) (wpAny_bind (slicePart_none (wpAny_bind (slicePart_int (wpAny_bind (wpAny_pure (wpAny_pure ?_)))))))))
  exact h
theorem getItem_two {t sl:Addr}{x y z:Value}{n:Nat}{u:Tok}{Q:Value→Shared→Prop} (ht:s.heap.get? t=some (tupObj #[x,y,z] n)) (hs:s.heap.IsSliceOf sl .none (.int 2 u) .none)
    (h:Q (.ref s.heap.objs.size) { s with heap:=s.heap.push { cls:=.type "tuple",data:=.seq #[x,y] } }):wpAny (model pw w) A (getItem (.ref t) (.ref sl)) Q E s:=by
  have hTs:s.TypeIs (.ref sl) "slice":=hs.imp fun _ e=>⟨e.1,e.2.1⟩
  have ht:IsTup s.heap t #[x,y,z]:=tupObj_is ht
  unfold getItem
  try with_reducible refine wpAny_holding ?_
  first | refine wpAny_bind (wpAny_pure ?_) | skip
  refine wpAny_bind (wpAny_sequenceKey ht.typeIs (by decide) ?_)
  refine wpAny_bind (wpAny_callSpecial?_slot (name:=Str.ofString "__getitem__") ht.typeIs slot_tuple_getitem
    (wpAny_call_entry slot_tuple_getitem ht.typeIs entry_tuple_getitem ?_ (args_tuple_getitem _ _)))
  refine wpAny_bind (m:=Builtin.Tuple.tupleItemsOf (.ref t)) (tupleItemsOf_ ht (wpAny_bind (wpAny_typeOf hTs (bm_if_true (by decide) (wpAny_bind (sliceApplied_two hs (bm_if_false rfl ?_)))))))
  exact wpAny_bind (m:=Builtin.Tuple.tupleExact _) (wpAny_newObj_type (wpAny_pure ⟨_,rfl,wpAny_pure h⟩) (show 2≤sizeLine by decide))
end
theorem place_of' {α:Type}{l:List α}{j:Int}{Q:α→Prop}{C:Prop} (e:optK ((place l.length j).bind (l[·]?)) Q) (f:∀ p a,(0≤j∧j < l.length∧p=j.toNat)∨(j < 0∧0≤j+l.length∧p=(j+l.length).toNat)→l[p]?=some a→Q a→C):C:=by
  unfold place at e
  by_cases h1:0≤j
  · rw [if_pos h1] at e
    by_cases h2:j < l.length
    · rw [if_pos h2] at e;exact optK.elim e fun a g q=>f _ a (.inl ⟨h1,h2,rfl⟩) g q
    · rw [if_neg h2] at e;exact False.elim e
  · rw [if_neg h1] at e
    by_cases h2:0≤j+l.length
    · rw [if_pos h2] at e;exact optK.elim e fun a g q=>f _ a (.inr ⟨Int.not_le.mp h1,h2,rfl⟩) g q
    · rw [if_neg h2] at e;exact False.elim e
noncomputable def PlaceIn (n:Nat) (j:Int) (p:Nat):Prop:=(0≤j∧j < n∧p=j.toNat)∨(j < 0∧0≤j+n∧p=(j+n).toNat)
theorem place_seq {n:Nat}{j:Int}{p:Nat} (e:PlaceIn n j p):seqIndex? j n=some p:=by
  unfold seqIndex?
  refine e.elim (fun e=>?_) fun e=>?_
  · obtain ⟨h1,h2,rfl⟩:=e
    simp [Int.not_lt.mpr h1,h1,h2]
  · obtain ⟨h1,h2,rfl⟩:=e
    simp [h1,h2];omega
theorem lim_fit {n:Nat}{j:Int}{p:Nat} (e:PlaceIn n j p) (hn:n≤lim):-(2 ^ 63)≤j∧j < 2 ^ 63:=by
  unfold lim at hn
  unfold PlaceIn at e
  omega
section
variable {G:Ctx}{A:Around}{E:Value→Shared→Prop}{t:St G}{ρ:List Addr}{h:Heap}{s:Shared}{n:Nat}{x y i:V}{a b:Value}{K:V→AH→Prop}{Q:Value→Shared→Prop}
theorem subV_ok (hx:RV t x a) (hi:RV t i b) (e:subV x i t.H K) (hq:To RV t K Q):GetI t.s a∧wpAny (model pw G.w) A (getItem a b) Q E t.s:=by
  refine e.elim (fun e=>?_) fun e=>e.elim (fun e=>?_) fun e=>?_
  · apply St.onObj hx e
    · intro _ _ us _ vs e _ g r
      have l1:=lstObj_is g
      refine ⟨⟨_,_,l1.typeIs,slot_list_getitem.lookup⟩,?_⟩
      apply hi.onInt e;intro j _ e
      refine place_of' e.2 fun p v hp h q=>r.get h fun y y1 y2=>?_
      have hf:=lim_fit hp e.1
      have y1:us.toArray[p]?=some y:=by rw [List.getElem?_toArray];exact y1
      have hl:(us.toArray.size:Int)=vs.length:=congrArg _ r.len.symm
      refine hp.elim (fun hp=>?_) fun hp=>?_
      · exact wpAny_getItem_list l1 hp.1 hf.2 (hp.2.2▸y1) (hq.mk q y2)
      · exact wpAny_getItem_list_neg l1 hp.1 (by rw [hl];omega) hf.1 (by rw [hl,← hp.2.2];exact y1) (hq.mk q y2)
    · intro _ a kvs e ha D
      have go:∀ d:Knd G.w,d.In G t.ρ t.h kvs a→GetI t.s (.ref a):=fun d D=>D.elim fun l D=>letI:=d.dec;⟨_,_,D.1.typeIs,slot_dict_getitem.lookup⟩
      exact ⟨D.elim (go _) fun D=>D.elim (go _) (go _),dict_get_ok D hi e hq⟩
  · apply hx.onTup e;intro vs a us _ e g _ r
    have t1:=tupObj_is g
    refine ⟨⟨_,_,t1.typeIs,slot_tuple_getitem.lookup⟩,?_⟩
    apply hi.onInt e;intro j _ e
    refine place_of' e.2 fun p v hp h q=>r.get h fun y y1 y2=>?_
    have hf:=lim_fit hp e.1
    exact getItem_tuple (t:=a) (items:=us.toArray) t1 hf.1 hf.2 (by rw [List.size_toArray,← r.len];exact place_seq hp) (by rw [List.getElem?_toArray];exact y1) (hq.mk q y2)
  · apply hx.onStr e;intro cs u e
    refine ⟨⟨_,_,typeIs_str t.s _ u,slot_str_getitem.lookup⟩,?_⟩
    apply hi.onInt e;intro j _ e
    refine place_of' e.2 fun p c hp h q=>?_
    have hf:=lim_fit hp e.1
    refine PySem.P.getItem_str (c:=c) ?_ ?_ (hq.tok q (.str [c] _))
    · rw [decide_eq_false (Int.not_lt.mpr hf.1),decide_eq_false (Int.not_le.mpr hf.2)];rfl
    · show (seqIndex? j cs.length).bind _=_
      rw [place_seq hp]
      exact (List.getElem?_toArray ..).trans h
theorem krv_rev (us:List Value):us.toArray.toList.reverse=us.reverse:=rfl
theorem take_pick {us:List Value}{k:Int} (h0:0≤k):slicePick us.toArray none (some k) none=(us.take k.toNat).toArray:=by
  obtain ⟨m,rfl⟩:=Int.eq_ofNat_of_zero_le h0
  by_cases q:m≤us.length
  · have:=slicePick_upto us.toArray m (by simpa using q)
    simpa using this
  · have h1:slicePick us.toArray none (some (m:Int)) none=slicePick us.toArray none none none:=by
      unfold slicePick
      have:sliceBounds none (some (m:Int)) none us.toArray.size=sliceBounds none none none us.toArray.size:=by
        have h3:min (m:Int) (us.length:Int)=us.length:=by omega
        simp only [sliceBounds,Option.getD_none,if_neg (Int.not_lt.mpr h0),show (1:Int) > 0 by decide,if_true,List.size_toArray]
        rw [h3,Int.max_eq_right (Int.natCast_nonneg _)]
      rw [this]
    rw [h1,slicePick_all]
    show _=(us.take m).toArray
    rw [List.take_of_length_le (Nat.le_of_not_le q)]
theorem list_take_ok {l sl:Addr}{vs:List V}{us:List Value}{k:Int}{u:Tok} (hl:t.h.IsList l us.toArray) (r:RVs t vs us) (h0:0≤k) (hz:vs.length≤lim) (e:K (.ref t.H.length) (t.H++[.list (vs.take k.toNat)])) (hq:To RV t K Q)
    (hs:t.h.IsSliceOf sl .none (.int k u) .none):wpAny (model pw G.w) A (getItem (.ref l) (.ref sl)) Q E t.s:=by
  refine wpAny_getItem_list_slice hl hs .none (.int k u) .none (fun q=>nomatch q) ?_ (lim_size (by rw [List.size_toArray,← r.len];exact hz))
  show Q (.ref _) { t.s with heap:=t.s.heap.push { cls:=.type "list",data:=.seq (slicePick us.toArray none (some k) none) } }
  rw [take_pick h0]
  exact hq.newList (r.take _) e
theorem uptoV_ok (hx:RV t x a) (hi:RV t i b) (e:uptoV x i t.H K) (hq:To RV t K Q):GetI t.s a∧∀ sl,t.h.IsSliceOf sl .none b .none→wpAny (model pw G.w) A (getItem a (.ref sl)) Q E t.s:=by
  apply hi.onInt e;intro k _ e
  refine e.elim (fun e=>?_) fun e=>e.2.elim (fun e'=>?_) fun e'=>?_
  · apply hx.onTup e;intro vs a us _ e g na r
    refine ⟨⟨_,_,(tupObj_is g).typeIs,slot_tuple_getitem.lookup⟩,fun sl hs=>?_⟩
    obtain ⟨hk,p,q,m,rfl,e1⟩:=e
    subst hk
    revert g
    apply r.head;intro y1 _ r1 r
    apply r.two;intro y2 y3 r2 r3 g
    exact getItem_two g hs (hq.grown (keep_push _) e1 fun L=>.tup (Heap.get?_push_size _ rfl) (t.sim.free (new_none _)) (.cons (r1.later L) (.cons (r2.later L) .nil)))
  · obtain ⟨vs,rfl,hz,e'⟩:=e'
    apply hx.sees;intro a us l1 r
    exact ⟨⟨_,_,l1.typeIs,slot_list_getitem.lookup⟩,fun sl hs=>list_take_ok l1 r e.1.1 hz e'.2 hq hs⟩
  · apply St.onList hx e';intro _ a us _ vs e' _ g r
    exact ⟨⟨_,_,(lstObj_is g).typeIs,slot_list_getitem.lookup⟩,fun sl hs=>list_take_ok (lstObj_is g) r e.1.1 e'.1 e'.2.2 hq hs⟩
theorem revV_ok {sl:Addr}{u:Tok} (hx:RV t x a) (e:revV x t.H K) (hq:To RV t K Q) (hs:t.h.IsSliceOf sl .none .none (.int (-1) u)):GetI t.s a∧wpAny (model pw G.w) A (getItem a (.ref sl)) Q E t.s:=by
  apply St.onList hx e;intro _ a us _ vs e _ g r
  have l1:=lstObj_is g
  refine ⟨⟨_,_,l1.typeIs,slot_list_getitem.lookup⟩,wpAny_getItem_list_slice l1 hs .none .none (.int _ _) (by decide) ?_ (lim_size (by rw [List.size_toArray,← r.len,← List.length_reverse];exact e.1))⟩
  rw [krv_pick]
  exact hq.newList r.rev e.2
end
section
variable {G:Ctx}{A:Around}{E:Value→Shared→Prop}{t:St G}{n:Nat}{x y i:V}{a b c:Value}
theorem upd_self {h:Heap}{l:Addr}{items:Array Value}{n:Nat} (f:Array Value→Array Value) (ho:h.get? l=some (lstObj items n)):∃ n',(h.update l (Obj.mapSeq f)).get? l=some (lstObj (f items) n'):=by
  have:=Heap.get?_update_self (Obj.mapSeq f) ho rfl
  exact ⟨_,by simpa [Obj.mapSeq] using this⟩
theorem upd_other {h:Heap}{l:Addr} (f:Obj→Obj):∀ b o,b≠l→h.get? b=some o→(h.update l f).get? b=some o:=fun b o hb e=>(Heap.get?_update_other h f (Ne.symm hb)).trans e
theorem To.turnList {α β:Type}{R:St G→α→β→Prop}{K:α→AH→Prop}{Q:β→Shared→Prop}{v:α}{y:β}{i:Nat}{a:Addr}{us:List Value}{vs':List V}{us':List Value}{c:Nat}{f:Array Value→Array Value}{tk:Nat} (hq:To R t K Q)
    (ha:t.ρ[i]?=some a) (ho:t.h.get? a=some (lstObj us.toArray c)) (hf:f us.toArray=us'.toArray) (hv:RVs t vs' us') (e:K v (t.H.set i (.list vs')))
    (hp:∀ t':St G,Later G t.ρ t.h t'.ρ t'.h→R t' v y):Q y { t.s with heap:=t.h.update a (Obj.mapSeq f),toks:=tk } :=
  (upd_self f ho).elim fun c' h=>hq.turned (o:=.list vs') ha (upd_other _) (fun L=>⟨us',c',hf▸h,L.all hv⟩) e (hp (t.upd (o:=.list vs') ha (upd_other _) (fun L=>⟨us',c',hf▸h,L.all hv⟩) tk))
theorem list_setItem {s:Shared}{w:World}{a:Addr}{us:List Value}{c:Nat}{j:Int}{u:Tok}{Q:Unit→Shared→Prop} (ho:s.heap.get? a=some (lstObj us.toArray c)) (h0:0≤j) (h1:j < us.length) (hz:us.length≤lim) {v:Value}
    (hq:Q () { s with heap:=s.heap.update a (Obj.mapSeq (·.setIfInBounds j.toNat v)) }):wpAny (model pw w) A (setItem (.ref a) (.int j u) v) Q E s:=by
  have hl':=lstObj_is ho
  have hf:Builtin.List.listFitsIndex j=true:=by
    unfold Builtin.List.listFitsIndex
    rw [decide_eq_true (Int.le_trans (by decide) h0),decide_eq_true (Int.lt_trans h1 (len_le hz))];rfl
  unfold setItem
  try with_reducible refine wpAny_holding ?_
  refine wpAny_bind (wpAny_sequenceKey hl'.typeIs (by decide) ?_)
  refine wpAny_bind (wpAny_callSpecial?_slot (name:=Str.ofString "__setitem__") hl'.typeIs slot_list_setitem
    (wpAny_call_entry slot_list_setitem hl'.typeIs entry_list_setitem ?_ (args_list_setitem _ _ _)))
  refine wpAny_bind (m:=Builtin.List.listSubscript? (.int j u)) (wpAny_listSubscript_int hf ?_)
  clear hf
  obtain ⟨k,rfl⟩:=Int.eq_ofNat_of_zero_le h0
  have hk:k < us.toArray.size:=Int.ofNat_lt.mp h1
  refine wpAny_bind (m:=seqItemAt a k >>= fun r=>pure (r.map (k,·))) (wpAny_bind (wpAny_seqItemAt ho rfl (wpAny_pure ?_)))
  rw [show (us.toArray[k]?:Option Value)=some us.toArray[k] from Array.getElem?_eq_getElem hk]
  exact wpAny_bind (m:=setSeqItemAt a k v) (wpAny_setSeqItemAt ho rfl (wpAny_pure ⟨.none,rfl,wpAny_pure hq⟩))
theorem setI_ok {K:AH→Prop}{Q:Unit→Shared→Prop} (hx:RV t x a) (hi:RV t i b) (hv:RV t y c) (e:setI x i y t.H K) (hq:To RU t (fun _=>K) Q):wpAny (model pw G.w) A (setItem a b c) Q E t.s:=by
  apply St.onObj hx e
  · intro _ _ us _ vs e ha g r
    apply hi.onInt e;intro j _ e
    exact list_setItem g e.1.1 (by rw [← r.len];exact e.1.2.1) (by rw [← r.len];exact e.1.2.2)
      (hq.turnList (v:=()) (tk:=t.s.toks) ha g (by rw [List.setIfInBounds_toArray]) (All2.set hv r _) e.2 fun _ _=>trivial)
  · exact fun _ _ kvs e ha D=>dict_set_ok ha D hi hv e hq
variable {K:V→AH→Prop}{Q:Value→Shared→Prop}
theorem app_ok (hx:RV t x a) (hy:RV t y b) (e:appV x y t.H K) (hq:To RV t K Q):wpAny (model pw G.w) A (call (.builtin "list.append") [a,b]) Q E t.s:=by
  apply St.onList hx e;intro _ a us c vs e ha g r
  refine call_meets F.slot_list_append ⟨_,g,rfl⟩ F.entry_list_append (F.args_list_append_2 _ _) (list_append a us.toArray c b (lim_size (by rw [List.size_toArray,← r.len];exact Nat.le_of_lt e.1))) ⟨g,?_⟩
  exact hq.turnList ha g (List.push_toArray ..) (r.app (.cons hy .nil)) e.2 fun _ _=>.none
theorem pop_ok (hx:RV t x a) (e:popV x t.H K) (hq:To RV t K Q):wpAny (model pw G.w) A (call (.builtin "list.pop") [a]) Q E t.s:=by
  apply St.onList hx e;intro _ a us c vs e ha g r
  refine optK.elim e.2 fun v h q=>?_
  rw [List.getLast?_eq_getElem?] at h
  refine r.get h fun y y1 y2=>?_
  have hl:=r.len
  have hp:=(gS h).1
  refine call_meets F.slot_list_pop ⟨_,g,rfl⟩ F.entry_list_pop (F.args_list_pop_1 _) (MeetsSeq.list_pop_last a us.toArray c y (by rw [List.size_toArray,← hl,List.getElem?_toArray];exact y1) (lim_size (by rw [List.size_toArray,← hl];exact e.1))) ⟨g,?_⟩
  refine hq.turnList (us':=us.dropLast) ha g ?_ (by rw [List.dropLast_eq_take,List.dropLast_eq_take,← hl];exact r.take _) q fun t' L=>y2.later L
  unfold Array.eraseIdxIfInBounds
  rw [dif_pos (by rw [List.size_toArray,← hl];exact hp)]
  simp
theorem popAt_ok (hx:RV t x a) (hy:RV t y b) (e:popAtV x y t.H K) (hq:To RV t K Q):wpAny (model pw G.w) A (call (.builtin "list.pop") [a,b]) Q E t.s:=by
  apply hx.onRef e;intro _ a e ha
  apply hy.onInt e;intro j u e
  refine St.lst ha e fun us c vs e g r=>optK.elim e.2 fun v h q=>r.get h fun y y1 y2=>?_
  have hl:=r.len
  have hz:=e.1.2.2
  have hk:PlaceIn vs.length j j.toNat:=.inl ⟨e.1.1,e.1.2.1,rfl⟩
  have hf:=lim_fit hk hz
  refine call_meets F.slot_list_pop ⟨_,g,rfl⟩ F.entry_list_pop (F.args_list_pop_2 _ _) (MeetsSeq.list_pop_at a us.toArray c j u j.toNat y ?_ (by rw [List.size_toArray,← hl];exact place_seq hk) (by rw [List.getElem?_toArray];exact y1) (lim_size (by rw [List.size_toArray,← hl];exact hz))) ⟨g,?_⟩
  · unfold Builtin.List.listFitsIndex;rw [decide_eq_true hf.1,decide_eq_true hf.2];rfl
  · refine hq.turnList (us':=us.eraseIdx j.toNat) ha g ?_ (r.erase _) q fun t' L=>y2.later L
    unfold Array.eraseIdxIfInBounds
    rw [dif_pos (show j.toNat < us.toArray.size from (gS y1).1)]
    simp
theorem ext_ok (hx:RV t x a) (hy:RV t y b) (e:extV x y t.H K) (hq:To RV t K Q):wpAny (model pw G.w) A (call (.builtin "list.extend") [a,b]) Q E t.s:=by
  apply hx.onRef e;intro _ a e ha
  apply hy.onRef e;intro _ b e hb
  refine St.lst ha e.2 fun us c vs e g r=>St.lst hb e fun ws d xs e g' r'=>?_
  have hz:us.toArray.size+ws.toArray.size≤sizeLine:=by rw [List.size_toArray,List.size_toArray,← r.len,← r'.len];exact lim_size e.1
  refine call_meets F.slot_list_extend ⟨_,g,rfl⟩ F.entry_list_extend (F.args_list_extend_2 _ _) (AutoSeq1.list_extend_list_list_0 a us.toArray c b ws.toArray d ?_ (by omega) (by omega)) ⟨g,g',?_⟩
  · have:Builtin.List.listTooLong (us.toArray.size+ws.toArray.size)=false:=decide_eq_false (Nat.not_lt.mpr hz)
    rw [this];simp
  · exact hq.turnList ha g (List.append_toArray ..) (r.app r') e.2 fun _ _=>.none
end
noncomputable def Fn.nm (f:Fn):String:=nthD "" ["","","","","digest","","many","put","take","sink","","","","","walked","parents","date","level","painted","is_ancestor","best_common","merge_bases","merge_bases_many","independent","ahead_behind","","octets","","octets","","","","octets","","","keep","write_tree","write_commit","row_of","of_kind","commit","","","","","","","","","","","","",""] f
noncomputable def Fn.str (f:Fn):PySem.Str:=PySem.Str.ofString f.nm
noncomputable def clsAll:List Cls:=[.CountingHasher,.RankQueue,.WalkedCommit,.Walk,.Person,.Tree,.Commit,.MemoryStore]
theorem clsAll_mem (c:Cls):c∈clsAll:=by cases c<;>decide
noncomputable def fdAll:List Fd:=[.rows,.came,.size,.known,.hasher,.kept,.store,.shallow,.levels,.parents,.tree,.date,.name,.email,.when,.zone,.entries,.author,.committer,.extra,.message]
theorem fdAll_mem (c:Fd):c∈fdAll:=by cases c<;>decide
structure ClsF (K:Frag) (c:Cls):Prop where
  makes:makesIn K c.addr=true
  init:findIn K (.ref c.addr) "__init__" = some (some (.ref (initOf c).addr))
  initFn:isFn K (.ref (initOf c).addr)=true
  setter:findIn K (.ref c.addr) "__setattr__" = some (some (.builtin "object.__setattr__"))
  over:plainOver K c.addr=true
  hasDict:hasDictIn K c.addr=true
  get:plainGet K c.addr "" = true
  fld:∀ f,f∈fieldsOf c→takerIn K c.addr f.str=some none∧(findIn K (.ref c.addr) f.str).any (noGet K)=true
  meth:∀ f,f∈methOf c→findIn K (.ref c.addr) f.str=some (some (.ref f.addr))∧isFn K (.ref f.addr)=true
noncomputable def clsOk (K:Frag) (c:Cls):Bool :=
  makesIn K c.addr && ((findIn K (.ref c.addr) "__init__" == some (some (.ref (initOf c).addr))) && (isFn K (.ref (initOf c).addr) && ((findIn K (.ref c.addr) "__setattr__" == some (some (.builtin "object.__setattr__"))) &&
  (plainOver K c.addr && (hasDictIn K c.addr && (plainGet K c.addr "" &&
  ((fieldsOf c).all (fun f=>(takerIn K c.addr f.str == some none) && (findIn K (.ref c.addr) f.str).any (noGet K)) &&
  (methOf c).all (fun f=>(findIn K (.ref c.addr) f.str == some (some (.ref f.addr))) && isFn K (.ref f.addr)))))))))
theorem and2 {a b:Bool}{C:Prop} (h:(a && b)=true) (f:a=true→b=true→C):C:=by
  cases a
  · exact absurd h Bool.false_ne_true
  · exact f rfl h
theorem andL {a b:Bool} (h:(a && b)=true):a=true:=and2 h fun a _=>a
theorem andR {a b:Bool} (h:(a && b)=true):b=true:=and2 h fun _ b=>b
theorem opt_any {α:Type}{o:Option α}{p:α→Bool}{C:Prop} (h:o.any p=true) (f:∀ a,o=some a→p a=true→C):C:=by
  cases o
  · exact absurd h Bool.false_ne_true
  · exact f _ rfl h
theorem clsF_of {K:Frag}{c:Cls} (h:clsOk K c=true):ClsF K c :=
  ⟨(andL h),eq_of_beq (andL (andR h)),(andL (andR (andR h))),eq_of_beq (andL (andR (andR (andR h)))),(andL (andR (andR (andR (andR h))))),(andL (andR (andR (andR (andR (andR h)))))),(andL (andR (andR (andR (andR (andR (andR h))))))),fun f hf=>have z:=List.all_eq_true.mp (andL (andR (andR (andR (andR (andR (andR (andR h)))))))) f hf;⟨eq_of_beq (andL z),andR z⟩,fun f hf=>have z:=List.all_eq_true.mp (andR (andR (andR (andR (andR (andR (andR (andR h)))))))) f hf;⟨eq_of_beq (andL z),andR z⟩⟩
structure Facts (G:Ctx) (K:Frag):Prop where
  inn:K.In G.h₀
  noTab:∀ a o,K.lookup a=some o→a≠tabA
  cls:∀ c,ClsF K c
  fn:∀ f:Fn,Nat.blt f 54=true→keepIn K (.ref f.addr)=true
  clsKeep:∀ c:Cls,keepIn K (.ref c.addr)=true
section
variable {G:Ctx}{A:Around}{E:Value→Shared→Prop}{t:St G}{ρ:List Addr}{h:Heap}{s:Shared}{n:Nat}{x y:V}{a b:Value}{Kf:Frag}
theorem Facts.here (F:Facts G Kf) (t:St G):Kf.In t.h:=fun a o e=>t.sim.base a o (F.inn a o e) (F.noTab a o e)
theorem str_isStr (f:Fd) (u:Tok) (g:Fd):(Value.str f.str u).isStr g.str=decide (f=g) :=
  eq_of_beq (List.all_eq_true.mp (List.all_eq_true.mp (show (fdAll.all fun f=>fdAll.all fun g=>(Value.str f.str 0).isStr g.str == decide (f=g))=true by decide +kernel) f (fdAll_mem f)) g (fdAll_mem g))
theorem FlR.find (f:Fd) {fs:List (Fd × V)}{es:List DictEntry} (q:FlR G ρ h fs es):OptR (fun v e=>VRel G ρ h v e.val) (fs.lookup f) (es.find? (·.key.isStr f.str)):=by
  unfold FlR at q
  induction q with
  | nil=>exact .none
  | @cons p e _ _ r _ ih =>
    obtain ⟨g,v⟩:=p
    obtain ⟨⟨u,k⟩,r⟩:=r
    rw [List.lookup_cons,List.find?_cons,k,str_isStr]
    by_cases q:f=g
    · rw [q,beq_self_eq_true,decide_eq_true rfl];exact .some r
    · rw [beq_eq_false_iff_ne.mpr q,decide_eq_false (Ne.symm q)];exact ih
theorem FlR.noRef {fs:List (Fd × V)}{es:List DictEntry} (q:FlR G ρ h fs es):es.any (·.refKey)=false:=by
  unfold FlR at q
  induction q with
  | nil=>rfl
  | cons r _ ih =>
    obtain ⟨⟨u,k⟩,_⟩:=r
    rw [List.any_cons,ih]
    unfold DictEntry.refKey
    rw [k];rfl
theorem FlR.put {f:Fd}{v:V}{x:Value}{hs:Int}{t:Tok} (hv:VRel G ρ h v x) {fs:List (Fd × V)}{es:List DictEntry} (q:FlR G ρ h fs es):FlR G ρ h (putF fs f v) (putL f.str hs (.str f.str t) x es):=by
  unfold FlR at q
  induction q with
  | nil=>exact .cons ⟨⟨t,rfl⟩,hv⟩ .nil
  | @cons p e _ _ r q ih =>
    obtain ⟨g,v'⟩:=p
    unfold putF putL
    obtain ⟨⟨u,k⟩,r⟩:=r
    rw [show e.key.isStr f.str=decide (g=f) by rw [k];exact str_isStr g u f]
    by_cases z:g=f
    · rw [if_pos z,if_pos (decide_eq_true z)];exact .cons ⟨⟨u,k⟩,hv⟩ q
    · rw [if_neg z,if_neg (by rw [decide_eq_false z];exact Bool.false_ne_true)];exact .cons ⟨⟨u,k⟩,r⟩ ih
theorem putF_len (f:Fd) (v:V):∀ fs:List (Fd × V),(putF fs f v).length≤fs.length+1
  | []=>Nat.le_refl _
  | (g,u) :: r=>by
    unfold putF
    split
    · exact Nat.le_succ _
    · exact Nat.succ_le_succ (putF_len f v r)
theorem putF_mem (f:Fd) (v:V) (P:Fd→Prop) (hf:P f):∀ (fs:List (Fd × V)),(∀ p∈fs,P p.1)→∀ p∈putF fs f v,P p.1
  | [],_=>fun p m=>mS m▸hf
  | (g,u) :: r,k=>by
    unfold putF
    split
    · exact fun p m=>(mZ m).elim (fun q=>q▸k (g,u) (List.mem_cons_self ..)) fun m=>k p (List.mem_cons_of_mem _ m)
    · exact fun p m=>(mZ m).elim (fun q=>q▸k (g,u) (List.mem_cons_self ..)) fun m=>putF_mem f v P hf r (fun p m=>k p (List.mem_cons_of_mem _ m)) p m
theorem mem_of_lookup {f:Fd}{v:V}:∀ {fs:List (Fd × V)},fs.lookup f=some v→(f,v)∈fs
  | [],e=>nomatch e
  | (g,u) :: r,e=>by
    rw [List.lookup_cons] at e
    by_cases q:f=g
    · rw [q,beq_self_eq_true] at e;rw [q,← Option.some.inj e];exact List.mem_cons_self ..
    · rw [beq_eq_false_iff_ne.mpr q] at e;exact List.mem_cons_of_mem _ (mem_of_lookup e)
theorem St.onInst {C:Value→Prop}{Q:Cls→Nat→List (Fd × V)→Prop} (hx:RV t x a) (e:x.onInst fun c i=>fldK t.H c i (Q c i))
    (f:∀ c i a d sl fs es n,Q c i fs→t.ρ[i]?=some d→t.h.get? d=some (dictOf es n)→FlR G t.ρ t.h fs es→(∀ p,p∈fs→p.1∈fieldsOf c)→InstAt t.h a ⟨.ref c.addr,some d,.plain,sl⟩ c.addr (some (dictOf es n))→C (.ref a)):C a:=by
  apply hx.onInst e;intro c i a d sl e ha hd
  refine optK.elim e fun o ho e=>?_
  have r:=t.sim.objs i o d ho hd
  cases o with
  | flds c' fs =>
    obtain ⟨rfl,e⟩:=e
    exact r.elim fun es r=>r.elim fun n r=>f c' i a d sl fs es n e hd r.1 r.2.1 r.2.2 ⟨ha,rfl,rfl,r.1⟩
  | _=>exact False.elim e
theorem getF_ok {f:Fd}{b:Bool}{K:V→AH→Prop}{Q:Value→Shared→Prop} (F:Facts G Kf) (hx:RV t x a) (e:getF x f t.H K) (hq:To RV t K Q):wpAny (model pw G.w) A (getAttr a f.str b) Q E t.s:=by
  apply St.onInst hx e;intro c i a d sl fs es n e hd g r h3 I
  have X:=F.here t
  have C:=F.cls c
  refine optK.elim e fun v hl q=>(r.find f).get (Q:=(·=v)) (optK_of hl) fun v' y hy hv ry=>?_
  have k:=C.fld f (h3 _ (mem_of_lookup hl))
  refine opt_any k.2 fun at' k2 k3=>?_
  have l1:getL f.str es=some (some y.val):=by unfold getL;rw [hy]
  exact get_value X I (plainGet_of C.get).1 (findObj_own C.hasDict k2 k3 (by rw [lookIn_dict];exact l1)) ry.handed (hq.tok (hv▸q) ry)
theorem set_raw {w:World}{C x dx:Addr}{sl:Array (Option Value)}{es:List DictEntry}{n:Nat}{name:PySem.Str}{v:Value}{Q:Unit→Shared→Prop} (X:Kf.In s.heap) (I:InstAt s.heap x ⟨.ref C,some dx,.plain,sl⟩ C (some (dictOf es n)))
    (hs:findIn Kf (.ref C) "__setattr__" = some (some (.builtin "object.__setattr__"))) (hp:plainOver Kf C=true) (ht:takerIn Kf C name=some none) (hh:hasDictIn Kf C=true) (hr:es.any (·.refKey)=false) (hz:(putL name (PyData.keyHash w.params name) (.str name (s.toks+1)) v es).length≤1000)
    (h:Q () { s with heap:=s.heap.update dx (Obj.putName name (PyData.keyHash w.params name) (.str name (s.toks+1)) v),toks:=s.toks+2 }):wpAny (model pw w) A (setAttr (.ref x) name v) Q E s:=by
  refine set_plain X I hs (osa_open (s:={ s with toks:=s.toks+1 }) X I hp ht fun b=>?_)
  obtain ⟨cd,hc,hd'⟩:=any_some hh
  have D:s.heap.get? dx=some (dictOf es n):=I.4
  have D':=Heap.get?_update_self (Obj.putName name (PyData.keyHash w.params name) (.str name (s.toks+1)) v) D (by rw [putName_dict];rfl)
  refine wpAny_bind (wpAny_pure (wpAny_bind (wpAny_bind (wpAny_loadPart I.1 (wpAny_bind ((looks_clsIn (h:=s.heap) X hc).here (s:={ s with toks:=s.toks+1 }) ?_))))))
  rw [hd']
  refine wpAny_pure (a:=some dx) (wpAny_bind (wpAny_pure (wpAny_bind ?_)))
  unfold nsSet
  refine wpAny_bind (wpAny_bind (wpAny_askSetting (wpAny_pure (wpAny_bind (wpAny_mkText (wpAny_bind (wpAny_loadPart D ?_)))))))
  have hr':(!es.toArray.any (·.key.isStr name) && es.toArray.any (·.refKey))=false:=by
    rw [List.any_toArray,List.any_toArray,hr,Bool.and_false]
  dsimp only
  rw [aRefKeyMayBeTheName_at,hr']
  exact wpAny_updatePart D (wpAny_bind (wpAny_lookBehind D' (by rw [putName_dict];exact pastItsLine_dict (by rw [List.size_toArray,sizeLine_eq];omega)) (wpAny_pure h)))
theorem setF_ok {f:Fd}{K:AH→Prop}{Q:Unit→Shared→Prop} (F:Facts G Kf) (hx:RV t x a) (hv:RV t y b) (e:setF x f y t.H K) (hq:To RU t (fun _=>K) Q):wpAny (model pw G.w) A (setAttr a f.str b) Q E t.s:=by
  apply St.onInst hx e;intro c i a d sl fs es n e hd g r h3 I
  have C:=F.cls c
  have hp:=r.put (f:=f) (hs:=PyData.keyHash G.w.params f.str) (t:=t.s.toks+1) hv
  refine set_raw (F.here t) I C.setter C.over (C.fld f e.1.1).1 C.hasDict r.noRef ?_ ?_
  · rw [← All2.len hp]
    exact Nat.le_trans (putF_len f y fs) (Nat.le_trans e.1.2 (by decide))
  · have hnew:=Heap.get?_update_self (Obj.putName f.str (PyData.keyHash G.w.params f.str) (.str f.str (t.s.toks+1)) b) g (by rw [putName_dict];rfl)
    rw [putName_dict] at hnew
    exact hq.turned (v:=()) (o:=.flds c (putF fs f y)) hd (upd_other _) (fun L=>⟨_,_,hnew,All2.imp (fun _ _ q=>⟨q.1,q.2.later L⟩) hp,putF_mem f y (·∈fieldsOf c) e.1.1 fs h3⟩) e.2 fun _=>trivial
end
inductive Pk where
  | loc | cel | free | hid
  deriving DecidableEq
noncomputable abbrev Sl:=List (PySem.Str × Pk)
noncomputable def Pk.kind:Pk→NameKind
  | .loc=>.local | .cel=>.cell | .free=>.free | .hid=>.local
noncomputable def Own (env:Env) (a:Addr):Prop:=a=env.locals∨∃ n,env.cells.lookup n=some a
noncomputable def vis (sl:Sl):List PySem.Str:=(sl.filter fun p=>p.2 != .hid).map (·.1)
theorem vis_mem {sl:Sl}{k:Nat}{x:PySem.Str}{p:Pk} (e:sl[k]?=some (x,p)) (h:p≠.hid):x∈vis sl :=
  List.mem_map.mpr ⟨(x,p),List.mem_filter.mpr ⟨List.mem_of_getElem? e,bne_iff_ne.mpr h⟩,rfl⟩
theorem vis_idx {sl:Sl} (nd:(vis sl).Nodup) {x:PySem.Str}{p q:Pk} (h1:p≠.hid) (h2:q≠.hid):∀ (j k:Nat),sl[j]?=some (x,p)→sl[k]?=some (x,q)→j=k:=by
  induction sl with
  | nil=>exact fun _ _ e=>nomatch e
  | cons a t ih =>
    obtain ⟨y,r⟩:=a
    unfold vis at nd
    rw [List.filter_cons] at nd
    by_cases hr:r = .hid
    · subst hr
      intro j k e1 e2
      cases j with
      | zero=>exact absurd (Prod.mk.inj (Option.some.inj e1)).2.symm h1
      | succ j=>cases k with
        | zero=>exact absurd (Prod.mk.inj (Option.some.inj e2)).2.symm h2
        | succ k=>exact congrArg _ (ih nd j k e1 e2)
    · rw [if_pos (bne_iff_ne.mpr hr),List.map_cons,List.nodup_cons] at nd
      intro j k e1 e2
      cases j with
      | zero=>cases k with
        | zero=>rfl
        | succ k=>exact absurd ((Prod.mk.inj (Option.some.inj e1)).1▸vis_mem e2 h2) nd.1
      | succ j=>cases k with
        | zero=>exact absurd ((Prod.mk.inj (Option.some.inj e2)).1▸vis_mem e1 h1) nd.1
        | succ k=>exact congrArg _ (ih nd.2 j k e1 e2)
theorem cell_name {cs:List (PySem.Str × Addr)} (hp:cs.Pairwise fun x y=>x.2≠y.2) {n n':PySem.Str}{c:Addr} (h:cs.lookup n=some c) (h':cs.lookup n'=some c):n=n' :=
  PySem.name_of_addr hp (PySem.mem_of_lookup h) (PySem.mem_of_lookup h')
theorem OptR.imp {α β:Type}{R S:α→β→Prop}{a:Option α}{b:Option β} (f:∀ a b,R a b→S a b) (r:OptR R a b):OptR S a b:=OptR.rec (R:=R) (motive:=fun a b _=>OptR S a b) .none (fun h=>.some (f _ _ h)) r
section
variable {G:Ctx}{A:Around}{E:Value→Shared→Prop}{t t':St G}{env:Env}{sl:Sl}{loc:Loc}{own:Addr→Prop}{c:Addr}{v:V}{u:Option V}{k i:Nat}{x:PySem.Str}{y:Value}
noncomputable def CellAt (t:St G) (c:Addr) (v:Option V):Prop:=(∃ i,v=some (.cel i)∧t.ρ[i]?=some c)∨(c∉t.ρ∧G.h₀.get? c=none∧∃ x,t.h.IsCell c x∧OptR (RV t) v x)
noncomputable def SlotR (env:Env) (m:PySem.Str→Option Value) (t:St G) (p:PySem.Str × Pk) (v:Option V):Prop :=
  p.2≠.hid→env.kindOf p.1=some p.2.kind∧((p.2 = .loc∧OptR (RV t) v (m p.1))∨(p.2≠.loc∧∃ c,env.cells.lookup p.1=some c∧CellAt t c v))
structure EnvOk (G:Ctx) (env:Env) (sl:Sl):Prop where
  kind:env.scope.kind = .function
  glob:env.globals=mainGlobals
  blt:env.builtins=builtinsNs
  nodup:(vis sl).Nodup
  apart:env.cells.Pairwise fun x y=>x.2≠y.2
  new:G.h₀.get? env.locals=none
structure FR (env:Env) (sl:Sl) (loc:Loc) (t:St G):Prop where
  ok:EnvOk G env sl
  len:loc.length=sl.length
  off:env.locals∉t.ρ
  slots:∃ m,t.h.Ns env.locals m∧∀ (k:Nat) (p:PySem.Str × Pk) (v:Option V),sl[k]?=some p→loc[k]?=some v→SlotR env m t p v
theorem Ns.get {h:Heap}{a:Addr}{m} (hn:h.Ns a m):∃ o,h.get? a=some o∧¬ Frozen o∧∀ v,o.data≠.cell v :=
  hn.elim fun o hn=>hn.elim fun _ hn=>hn.elim fun _ hn=>⟨o,hn.1,fun f=>by unfold Frozen at f;rw [hn.2.1] at f;exact f,fun v e=>by rw [hn.2.1] at e;cases e⟩
theorem Ns.same {h h':Heap}{a:Addr}{m} (hn:h.Ns a m) (k:∀ o,h.get? a=some o→h'.get? a=some o):h'.Ns a m:=hn.imp fun _ hn=>hn.imp fun _ hn=>hn.imp fun _ hn=>⟨k _ hn.1,hn.2⟩
theorem CellAt.same (L:Later G t.ρ t.h t'.ρ t'.h) (k:c∉t.ρ→∀ o v,t.h.get? c=some o→o.data = .cell v→t'.h.get? c=some o∧c∉t'.ρ) (r:CellAt t c u):CellAt t' c u :=
  r.imp (fun r=>r.imp fun _ r=>⟨r.1,L.ext _ _ r.2⟩) fun r=>r.2.2.elim fun x q=>q.1.elim fun o e =>
    have z:=k r.1 o _ e.1 e.2
    ⟨z.2,r.2.1,x,⟨o,z.1,e.2⟩,q.2.imp fun _ _=>VRel.later L⟩
theorem FR.but (L:Later G t.ρ t.h t'.ρ t'.h) (kp:∀ a o,t.h.get? a=some o→a∉t.ρ→Own env a→t'.h.get? a=some o∧a∉t'.ρ) (F:FR env sl loc t):FR env sl loc t' :=
  F.slots.elim fun m q=>(Ns.get q.1).elim fun o ho =>
    ⟨F.ok,F.len,(kp _ _ ho.1 F.off (.inl rfl)).2,m,Ns.same q.1 fun o e=>(kp _ o e F.off (.inl rfl)).1,fun k p v e1 e2 hp =>
      have z:=q.2 k p v e1 e2 hp
      ⟨z.1,z.2.imp (fun z=>⟨z.1,z.2.imp fun _ _=>VRel.later L⟩) fun z=>⟨z.1,z.2.imp fun c z=>⟨z.1,z.2.same L fun n o v e _=>kp c o e n (.inr ⟨_,z.1⟩)⟩⟩⟩⟩
theorem FR.step (st:Step none' t t') (F:FR env sl loc t):FR env sl loc t':=F.but st.later fun a o e n _=>⟨st.keep a o e n id,st.alone n e⟩
theorem load_ok {pk:Pk}{K:V→AH→Prop}{Q:Value→Shared→Prop} (F:FR env sl loc t) (e:sl[k]?=some (x,pk)) (hv:pk≠.hid) (hx:(x == ("__classdict__" : PySem.Str))=false) (el:loc[k]?=some (some v)) (hnc:notCel v=true)
    (q:K v t.H) (hq:To RV t K Q):wpAny (model pw G.w) A (loadName env x) Q E t.s:=by
  obtain ⟨m,hn,hs⟩:=F.slots
  have z:=hs k _ _ e el hv
  have z1:=z.1
  refine z.2.elim (fun z=>?_) fun z=>z.2.elim fun c z'=>z'.2.elim (fun r=>?_) fun r=>r.2.2.elim fun y r=>?_
  · refine z.2.get (Q:=(·=v)) rfl fun v' y h q' r=>?_
    subst q'
    rw [z.1] at z1
    exact wpAny_loadName_local F.ok.kind z1 hn h (hq.mk q r)
  · obtain ⟨i,e,_⟩:=r
    rw [Option.some.inj e] at hnc
    exact absurd hnc Bool.false_ne_true
  · refine r.2.get (Q:=(·=v)) rfl fun v' y h q' r'=>?_
    subst q'
    rw [h] at r
    cases pk with
    | hid=>exact absurd rfl hv
    | loc=>exact absurd rfl z.1
    | cel=>exact wpAny_loadName_cell F.ok.kind z1 z'.1 r.1 (hq.mk q r')
    | free=>exact wpAny_loadName_free F.ok.kind z1 z'.1 r.1 (hq.mk q r') hx
theorem FR.celc {pk:Pk} (F:FR env sl loc t) (e:sl[k]?=some (x,pk)) (hv:pk = .cel∨pk = .free) (el:loc[k]?=some (some (.cel i))):env.kindOf x=some pk.kind∧∃ c,env.cells.lookup x=some c∧t.ρ[i]?=some c:=by
  obtain ⟨m,hn,hs⟩:=F.slots
  have z:=hs k _ _ e el (fun q=>hv.elim (fun h=>nomatch h.symm.trans q) fun h=>nomatch h.symm.trans q)
  refine ⟨z.1,z.2.elim (fun z=>(hv.elim (fun h=>nomatch h.symm.trans z.1) fun h=>nomatch h.symm.trans z.1)) fun z=>z.2.imp fun c z=>⟨z.1,z.2.elim (fun r=>?_) fun r=>r.2.2.elim fun y r=>?_⟩⟩
  · obtain ⟨j,e,r⟩:=r
    rw [V.cel.inj (Option.some.inj e)];exact r
  · exact r.2.get (Q:=(· = .cel i)) (show optK (some (V.cel i)) (· = .cel i) from rfl) fun v' y h q' r'=>by rw [q'] at r';exact absurd r'.noCel Bool.false_ne_true
theorem St.cell {Q:Option V→Prop}{C:Prop} (ha:t.ρ[i]?=some c) (e:celK t.H i Q) (f:∀ u y,Q u→t.h.IsCell c y→OptR (RV t) u y→C):C:=by
  refine optK.elim e fun o ho e=>?_
  have r:=t.sim.objs i o c ho ha
  cases o with
  | cell u =>
    refine r.elim fun y r=>f u y e r.1 ?_
    cases u with
    | none=>rw [r.2];exact .none
    | some u=>obtain ⟨z,e,q⟩:=r.2;rw [e];exact .some q
  | _=>exact False.elim e
theorem loadc_ok {pk:Pk}{K:V→AH→Prop}{Q:Value→Shared→Prop} (F:FR env sl loc t) (e:sl[k]?=some (x,pk)) (hv:pk = .cel∨pk = .free) (hx:(x == ("__classdict__" : PySem.Str))=false) (el:loc[k]?=some (some (.cel i)))
    (q:celK t.H i fun o=>optK o fun v=>K v t.H) (hq:To RV t K Q):wpAny (model pw G.w) A (loadName env x) Q E t.s:=by
  obtain ⟨z1,c,z2,z3⟩:=F.celc e hv el
  refine St.cell z3 q fun u y q hc r=>r.get q fun v y h q r'=>?_
  subst h
  exact hv.elim (fun h=>by rw [h] at z1;exact wpAny_loadName_cell F.ok.kind z1 z2 hc (hq.mk q r')) fun h=>by rw [h] at z1;exact wpAny_loadName_free F.ok.kind z1 z2 hc (hq.mk q r') hx
noncomputable def ToL (own:Addr→Prop) (env:Env) (sl:Sl) (t:St G) (K:Loc→AH→Prop) (Q:Unit→Shared→Prop):Prop:=∀ t' loc',Step own t t'→K loc' t'.H→FR env sl loc' t'→Q () t'.s
theorem ToL.after {K Q} (st:Step own t t') (q:ToL own env sl t K Q):ToL own env sl t' K Q:=fun t'' loc' st'=>q t'' loc' (st.trans st')
theorem ToL.mono {own' K Q} (h:∀ a,own' a→own a) (q:ToL own env sl t K Q):ToL own' env sl t K Q:=fun t' loc' st=>q t' loc' (st.shed fun a _ ha _=>h a ha)
theorem set_get {v:Option V}{j:Nat} (e:(loc.set k v)[j]?=some u):(j=k∧u=v)∨(j≠k∧loc[j]?=some u):=by
  by_cases q:j=k
  · subst q
    rw [List.getElem?_set_self (by have:=(gS e).1;rwa [List.length_set] at this)] at e
    exact .inl ⟨rfl,(Option.some.inj e).symm⟩
  · rw [List.getElem?_set_ne (Ne.symm q)] at e
    exact .inr ⟨q,e⟩
theorem store_local {K:Loc→AH→Prop}{Q:Unit→Shared→Prop} (F:FR env sl loc t) (es:sl[k]?=some (x,.loc)) (hv:RV t v y) (q:K (loc.set k (some v)) t.H) (hq:ToL (·=env.locals) env sl t K Q):wpAny (model pw G.w) A (storeName env x y) Q E t.s:=by
  obtain ⟨m,hn,hs⟩:=F.slots
  have hk:k < loc.length:=F.len▸(gS es).1
  have hkind:=(hs k _ _ es (List.getElem?_eq_getElem hk) (fun q=>nomatch q)).1
  obtain ⟨o₀,g₀,nf,nc⟩:=Ns.get hn
  refine wpAny_storeName_local hkind hn (fun h' hn' hsb=>?_) (by rw [F.ok.kind];rfl)
  have kp:∀ a o,t.h.get? a=some o→¬ a=env.locals→h'.get? a=some o:=fun a o q ne=>(hsb.2 a ne).trans q
  have ho:∀ a o,a=env.locals→t.h.get? a=some o→a∉t.ρ∧¬ Fix G a o:=fun a o q g=>by
    subst q
    obtain rfl:=Option.some.inj (g₀.symm.trans g)
    exact ⟨F.off,fun f=>f.elim nf fun f=>nomatch F.ok.new.symm.trans f⟩
  have st:Step (·=env.locals) t (t.turn (own:=(·=env.locals)) kp ho (t.s.toks+1)):=t.owns kp ho (fun a o q _=>by rw [q];exact (Ns.get hn').imp fun _ h=>h.1) _
  refine hq (t.turn (own:=(·=env.locals)) kp ho (t.s.toks+1)) _ st q ⟨F.ok,by rw [List.length_set,F.len],F.off,_,hn',fun j p u e1 e2 hp=>?_⟩
  refine (set_get e2).elim (fun z=>?_) fun z=>?_
  · obtain ⟨rfl,rfl⟩:=z
    obtain rfl:=Option.some.inj (es.symm.trans e1)
    exact ⟨hkind,.inl ⟨rfl,by rw [if_pos rfl];exact .some (hv.later st.later)⟩⟩
  · have r:=hs j p u e1 z.2 hp
    refine ⟨r.1,r.2.imp (fun r=>⟨r.1,?_⟩) fun r=>⟨r.1,r.2.imp fun c r=>⟨r.1,r.2.same st.later fun n o v e ec=>⟨kp _ _ e fun q=>?_,n⟩⟩⟩⟩
    · rw [if_neg fun q=>z.1 (vis_idx F.ok.nodup hp (by decide:Pk.loc≠.hid) _ _ (show sl[j]?=some (x,p.2) by rw [← q];exact e1) es)]
      exact r.2.imp fun _ _=>VRel.later st.later
    · rw [q] at e
      obtain rfl:=Option.some.inj (g₀.symm.trans e)
      exact nc _ ec
theorem store_cell {K:Loc→AH→Prop}{Q:Unit→Shared→Prop} (F:FR env sl loc t) (es:sl[k]?=some (x,.cel)) (el:loc[k]?=some u) (hu:notCelO u=true) (hv:RV t v y) (q:K (loc.set k (some v)) t.H)
    (hq:ToL (fun a=>env.cells.lookup x=some a) env sl t K Q):wpAny (model pw G.w) A (storeName env x y) Q E t.s:=by
  obtain ⟨m,hn,hs⟩:=F.slots
  obtain ⟨hkind,z⟩:=hs k _ _ es el (fun q=>nomatch q)
  obtain ⟨_,c,hc,r⟩:=z.resolve_left fun z=>nomatch z.1
  obtain ⟨nr,n0,v₀,hcell,_⟩:=r.resolve_left fun ⟨i,q,_⟩=>by rw [q] at hu;exact absurd hu Bool.false_ne_true
  obtain ⟨o₀,g₀,d₀⟩:=id hcell
  obtain ⟨oL,gL,_,nL⟩:=Ns.get hn
  have hLc:env.locals≠c:=fun q=>by rw [q,g₀] at gL;exact nL _ (Option.some.inj gL▸d₀)
  refine wpAny_storeName_cell F.ok.kind hkind hc hcell fun h' hn' hsb=>?_
  have kp:∀ a o,t.h.get? a=some o→¬ env.cells.lookup x=some a→h'.get? a=some o:=fun a o q ne=>(hsb.2 a fun z=>ne (z▸hc)).trans q
  have ho:∀ a o,env.cells.lookup x=some a→t.h.get? a=some o→a∉t.ρ∧¬ Fix G a o:=fun a o q g=>by
    obtain rfl:=Option.some.inj (hc.symm.trans q)
    obtain rfl:=Option.some.inj (g₀.symm.trans g)
    exact ⟨nr,fun f=>f.elim (fun f=>by unfold Frozen at f;rw [d₀] at f;exact f) fun f=>nomatch n0.symm.trans f⟩
  have st:Step (fun a=>env.cells.lookup x=some a) t (t.turn kp ho t.s.toks):=t.owns kp ho (fun a o q _=>by rw [← Option.some.inj (hc.symm.trans q)];exact hn'.imp fun _ h=>h.1) _
  refine hq (t.turn kp ho t.s.toks) _ st q ⟨F.ok,by rw [List.length_set,F.len],F.off,m,Ns.same hn fun o q=>(hsb.2 _ hLc).trans q,fun j p u' e1 e2 hp=>?_⟩
  refine (set_get e2).elim (fun z=>?_) fun z=>?_
  · obtain ⟨rfl,rfl⟩:=z
    obtain rfl:=Option.some.inj (es.symm.trans e1)
    exact ⟨hkind,.inr ⟨(fun q=>nomatch q),c,hc,.inr ⟨nr,n0,_,hn',.some (hv.later st.later)⟩⟩⟩
  · have r:=hs j p u' e1 z.2 hp
    refine ⟨r.1,r.2.imp (fun r=>⟨r.1,r.2.imp fun _ _=>VRel.later st.later⟩) fun r=>⟨r.1,r.2.imp fun c' r=>⟨r.1,r.2.same st.later fun n o v e ec=>⟨kp _ _ e fun q=>?_,n⟩⟩⟩⟩
    have:p.1=x:=cell_name F.ok.apart r.1 q
    exact z.1 (vis_idx F.ok.nodup hp (by decide:Pk.cel≠.hid) _ _ (show sl[j]?=some (x,p.2) by rw [← this];exact e1) es)
theorem store_celc {K:Loc→AH→Prop}{Q:Unit→Shared→Prop} (F:FR env sl loc t) (e:sl[k]?=some (x,.cel)) (el:loc[k]?=some (some (.cel i))) (hv:RV t v y) (q:celK t.H i fun _=>K loc (t.H.set i (.cell (some v)))) (hq:ToL own env sl t K Q) :
    wpAny (model pw G.w) A (storeName env x y) Q E t.s:=by
  obtain ⟨z1,c,z2,z3⟩:=F.celc e (.inl rfl) el
  refine St.cell z3 q fun u y' q hc r=>wpAny_storeName_cell F.ok.kind z1 z2 hc fun h' hn' hsb=>?_
  have st:=t.upds (own:=none') (o:=.cell (some v)) z3 (fun b o ne q=>(hsb.2 b ne).trans q) (fun L=>⟨_,hn',_,rfl,hv.later L⟩) t.s.toks
  exact hq _ _ st.any q (F.step st)
end
inductive Sp where
  | name | const | bin | un | cmp | ife | attr | sub | slice | tup | lst | dct | call | bool | lc | oth
  deriving DecidableEq
noncomputable abbrev Pay:Sp→Type
  | .name=>PySem.Str × Pos
  | .const=>Const × Nat × Pos
  | .bin=>Expr × Operator × Expr × Pos
  | .un=>UnaryOp × Expr × Pos
  | .cmp=>Expr × List CmpOp × List Expr × Pos
  | .ife=>Expr × Expr × Expr × Pos
  | .attr=>Expr × PySem.Str × Pos
  | .sub=>Expr × Expr × Pos
  | .slice=>Option Expr × Option Expr × Option Expr × Pos
  | .tup=>List Expr × Nat × Pos
  | .lst=>List Expr × Pos
  | .dct=>List (Option Expr) × List Expr × Pos
  | .call=>Expr × List Expr × List Keyword × Pos
  | .bool=>BoolOp × List Expr × Pos
  | .lc=>Expr × List Comprehension × Scope × Pos
  | .oth=>Expr
noncomputable def Sp.mk:(k:Sp)→Pay k→Expr
  | .name,q=>.Name q.1 q.2
  | .const,q=>.Constant q.1 q.2.1 q.2.2
  | .bin,q=>.BinOp q.1 q.2.1 q.2.2.1 q.2.2.2
  | .un,q=>.UnaryOp q.1 q.2.1 q.2.2
  | .cmp,q=>.Compare q.1 q.2.1 q.2.2.1 q.2.2.2
  | .ife,q=>.IfExp q.1 q.2.1 q.2.2.1 q.2.2.2
  | .attr,q=>.Attribute q.1 q.2.1 q.2.2
  | .sub,q=>.Subscript q.1 q.2.1 q.2.2
  | .slice,q=>.Slice q.1 q.2.1 q.2.2.1 q.2.2.2
  | .tup,q=>.Tuple q.1 q.2.1 q.2.2
  | .lst,q=>.List q.1 q.2
  | .dct,q=>.Dict q.1 q.2.1 q.2.2
  | .call,q=>.Call q.1 q.2.1 q.2.2.1 q.2.2.2
  | .bool,q=>.BoolOp q.1 q.2.1 q.2.2
  | .lc,q=>.ListComp q.1 q.2.1 q.2.2.1 q.2.2.2
  | .oth,q=>q
noncomputable def sh (e:Expr):(k:Sp) × Pay k:=match e with
  | .Name x p=>⟨.name,x,p⟩
  | .Constant a b c=>⟨.const,a,b,c⟩
  | .BinOp a b c d=>⟨.bin,a,b,c,d⟩
  | .UnaryOp a b c=>⟨.un,a,b,c⟩
  | .Compare a b c d=>⟨.cmp,a,b,c,d⟩
  | .IfExp a b c d=>⟨.ife,a,b,c,d⟩
  | .Attribute a b c=>⟨.attr,a,b,c⟩
  | .Subscript a b c=>⟨.sub,a,b,c⟩
  | .Slice a b c d=>⟨.slice,a,b,c,d⟩
  | .Tuple a b c=>⟨.tup,a,b,c⟩
  | .List a b=>⟨.lst,a,b⟩
  | .Dict a b c=>⟨.dct,a,b,c⟩
  | .Call a b c d=>⟨.call,a,b,c,d⟩
  | .BoolOp a b c=>⟨.bool,a,b,c⟩
  | .ListComp a b c d=>⟨.lc,a,b,c,d⟩
  | e=>⟨.oth,e⟩
theorem sh_mk (e:Expr):(sh e).1.mk (sh e).2=e:=by cases e<;>rfl
noncomputable def on (k:Sp) (e:Expr) (p:Pay k→Bool):Bool:=if h:(sh e).1=k then p (h▸(sh e).2) else false
theorem on_elim {k:Sp}{e:Expr}{p:Pay k→Bool}{C:Expr→Prop} (h:on k e p=true) (f:∀ a,p a=true→C (k.mk a)):C e:=by
  unfold on at h
  by_cases q:(sh e).1=k
  · subst q
    rw [dif_pos rfl] at h
    exact sh_mk e▸f _ h
  · rw [dif_neg q] at h
    exact absurd h Bool.false_ne_true
noncomputable def known (e:Expr):Bool:=decide ((sh e).1≠.oth)
noncomputable def notSlice (e:Expr):Bool:=decide ((sh e).1≠.oth∧(sh e).1≠.slice)
noncomputable def baseOk (e:Expr):Bool:=decide ((sh e).1≠.oth∧(sh e).1≠.call) || on .call e fun q=>on .attr q.1 fun _=>true
noncomputable def asValue (e:Expr):Bool:=decide ((sh e).1 = .const) || (decide ((sh e).1 = .call) || decide ((sh e).1 = .name))
noncomputable def onCall (e:Expr) (p:PySem.Str→List Expr→Bool):Bool:=on .call e fun q=>q.2.2.1.isEmpty && on .name q.1 fun r=>p r.1 q.2.1
noncomputable def onCallA (e:Expr) (p:Expr→PySem.Str→Pos→List Expr→Pos→Bool):Bool:=on .call e fun q=>q.2.2.1.isEmpty && on .attr q.1 fun r=>p r.1 r.2.1 r.2.2 q.2.1 q.2.2.2
noncomputable def onOne {α:Type} (l:List α) (p:α→Bool):Bool:=match l with | []=>false | a :: r=>r.isEmpty && p a
noncomputable def onTwo {α:Type} (l:List α) (p:α→α→Bool):Bool:=match l with | []=>false | a :: r=>onOne r (p a)
noncomputable def onSome {α:Type} (o:Option α) (p:α→Bool):Bool:=match o with | some a=>p a | none=>false
theorem empty_elim {α:Type}{l:List α}{C:List α→Prop} (h:l.isEmpty=true) (f:C []):C l:=by
  cases l with
  | nil=>exact f
  | cons=>exact absurd h Bool.false_ne_true
theorem one_elim {α:Type}{l:List α}{p:α→Bool}{C:List α→Prop} (h:onOne l p=true) (f:∀ a,p a=true→C [a]):C l:=by
  cases l with
  | nil=>exact absurd h Bool.false_ne_true
  | cons a r=>exact and2 h fun h1 h2=>empty_elim (C:=fun r=>C (a :: r)) h1 (f a h2)
theorem two_elim {α:Type}{l:List α}{p:α→α→Bool}{C:List α→Prop} (h:onTwo l p=true) (f:∀ a b,p a b=true→C [a,b]):C l:=by
  cases l with
  | nil=>exact absurd h Bool.false_ne_true
  | cons a r=>exact one_elim (C:=fun r=>C (a :: r)) h (f a)
theorem some_elim {α:Type}{l:Option α}{p:α→Bool}{C:Option α→Prop} (h:onSome l p=true) (f:∀ a,p a=true→C (some a)):C l:=by
  cases l with
  | none=>exact absurd h Bool.false_ne_true
  | some a=>exact f a h
theorem none_elim {α:Type}{l:Option α}{C:Option α→Prop} (h:l.isNone=true) (f:C none):C l:=by
  cases l with
  | none=>exact f
  | some a=>exact absurd h Bool.false_ne_true
theorem dec_elim {α:Type}{a b:α} [Decidable (a=b)] {C:α→Prop} (h:decide (a=b)=true) (f:C b):C a:=of_decide_eq_true h▸f
theorem beq_elim {a b:PySem.Str}{C:PySem.Str→Prop} (h:(a == b)=true) (f:C b):C a:=eq_of_beq h▸f
theorem call_elim {e:Expr}{p:PySem.Str→List Expr→Bool}{C:Expr→Prop} (h:onCall e p=true) (f:∀ x np xs pos,p x xs=true→C (.Call (.Name x np) xs [] pos)):C e :=
  on_elim h fun q g=>and2 g fun g1 g2=>empty_elim (C:=fun kw=>C (.Call q.1 q.2.1 kw q.2.2.2)) g1 (on_elim (C:=fun e=>C (.Call e q.2.1 [] q.2.2.2)) g2 fun r g=>f r.1 r.2 q.2.1 q.2.2.2 g)
theorem callA_elim {e:Expr}{p:Expr→PySem.Str→Pos→List Expr→Pos→Bool}{C:Expr→Prop} (h:onCallA e p=true) (f:∀ x n ap xs pos,p x n ap xs pos=true→C (.Call (.Attribute x n ap) xs [] pos)):C e :=
  on_elim h fun q g=>and2 g fun g1 g2=>empty_elim (C:=fun kw=>C (.Call q.1 q.2.1 kw q.2.2.2)) g1 (on_elim (C:=fun e=>C (.Call e q.2.1 [] q.2.2.2)) g2 fun r g=>f r.1 r.2.1 r.2.2 q.2.1 q.2.2.2 g)
theorem base_mk {n:PySem.Str}{env:Env}{v:Sem Value}:∀ {k:Sp}{q:Pay k},k≠.oth→k≠.call→attributeBase (k.mk q) n env v=v
  | .name,_,_,_ | .const,_,_,_ | .bin,_,_,_ | .un,_,_,_ | .cmp,_,_,_ | .ife,_,_,_ | .attr,_,_,_ | .sub,_,_,_ | .slice,_,_,_ | .tup,_,_,_ | .lst,_,_,_ | .dct,_,_,_ | .bool,_,_,_ | .lc,_,_,_=>rfl
  | .call,_,_,h=>absurd rfl h
  | .oth,_,h,_=>absurd rfl h
theorem base_eq {x:Expr}{n:PySem.Str}{env:Env}{v:Sem Value} (h:baseOk x=true):attributeBase x n env v=v :=
  (bO h).elim (fun h=>have h:=of_decide_eq_true h;(congrArg (attributeBase · n env v) (sh_mk x)).symm.trans (base_mk h.1 h.2))
    fun h=>on_elim (C:=fun x=>attributeBase x n env v=v) h fun q g=>on_elim (C:=fun f=>attributeBase (.Call f q.2.1 q.2.2.1 q.2.2.2) n env v=v) g fun r _=>rfl
structure CkD where
  names:List (PySem.Str × NameKind)
  sl:Sl
  nest:Nat
noncomputable def globIn (K:Frag) (x:PySem.Str):Option Value:=(nsIn K mainGlobals x).bind fun o=>match o with
  | some v=>some v
  | none=>(nsIn K builtinsNs x).bind id
noncomputable def CkD.glob (K:Frag) (c:CkD) (x:PySem.Str) (v:Value):Bool:=(c.names.lookup x == some .globalImplicit) && ((globIn K x == some v) && !(x == ("__debug__" : PySem.Str)))
noncomputable def CkD.slot (c:CkD) (k:Nat) (x:PySem.Str) (f:Pk→Bool):Bool:=onSome c.sl[k]? fun q=>(q.1 == x) && (f q.2 && ((x == ("__debug__" : PySem.Str)) == false && (x == ("__classdict__" : PySem.Str)) == false))
noncomputable def cstOf (v:V):Option Const:=match v with
  | .none=>some .none
  | .bool b=>some (.bool b)
  | .int i=>some (.int i)
  | .str s=>some (.str (toStr s))
  | .bytes s=>some (.bytes s)
  | _=>none
noncomputable def valOf (t:Tok) (v:V):Option Value:=match v with
  | .int i=>some (.int i t)
  | .str s=>some (.str (toStr s) t)
  | .bytes s=>some (.bytes s.toArray t)
  | .fn f=>some (.ref f.addr)
  | _=>none
noncomputable def tokOf (u:Value):Tok:=match u with
  | .int _ t | .str _ t | .bytes _ t=>t
  | _=>0
noncomputable def chkC (K:Frag) (c:CkD) (v:V) (e:Expr):Bool:=on .const e (fun q=>decide (cstOf v=some q.1)) || on .name e fun q=>onSome (globIn K q.1) fun u=>c.glob K q.1 u && (valOf (tokOf u) v == some u)
noncomputable def chkB (K:Frag) (c:CkD) (v:Value) (r:Expr→Bool) (e:Expr):Bool:=onCall e fun x xs=>onOne xs fun y=>c.glob K x v && (known y && r y)
noncomputable def chkTwo (K:Frag) (c:CkD) (v:Value) (r r':Expr→Bool) (e:Expr):Bool:=onCall e fun x xs=>onTwo xs fun y z=>c.glob K x v && (known y && (known z && (r y && r' z)))
noncomputable def chkMeth (n:PySem.Str) (r:Expr→Bool) (as:List Expr→Bool) (e:Expr):Bool:=onCallA e fun x m ap xs pos=>(m == n) && (r x && (baseOk x && (as xs && (ap.endLine == pos.line))))
noncomputable def inner (names:List (PySem.Str × NameKind)) (own:List PySem.Str) (sl:Sl):Sl :=
  own.map (fun n=>(n,if names.lookup n == some .cell then Pk.cel else .loc)) ++
  sl.map fun p=>(p.1,if own.contains p.1 || !(names.lookup p.1 == some .free) || !(p.2 == .cel || p.2 == .free) then Pk.hid else p.2)
noncomputable def relab (outer names:List (PySem.Str × NameKind)):List (PySem.Str × NameKind):=names.map fun p=>(p.1,if p.2 == .free && outer.lookup p.1 == some .cell then NameKind.cell else p.2)
noncomputable def ownName (e:Expr):PySem.Str:=match (sh e).1,(sh e).2 with
  | .name,q=>q.1
  | _,_=>""
noncomputable def ownNames (e:Expr):List PySem.Str:=match (sh e).1,(sh e).2 with
  | .tup,q=>q.1.map ownName
  | _,_=>[ownName e]
noncomputable def ownOk (e:Expr):Bool:=on .name e (fun _=>true) || on .tup e fun q=>onTwo q.1 fun x y=>on .name x (fun _=>true) && on .name y fun _=>true
theorem ownOk_elim {e:Expr}{C:Expr→Prop} (h:ownOk e=true) (f:∀ x p,C (.Name x p)) (g:∀ x p y q k pos,C (.Tuple [.Name x p,.Name y q] k pos)):C e :=
  (bO h).elim (fun h=>on_elim h fun q _=>f q.1 q.2) fun h=>on_elim h fun q h=>two_elim (C:=fun l=>C (.Tuple l q.2.1 q.2.2)) h fun x y h=>and2 h fun h1 h2 =>
    on_elim (C:=fun x=>C (.Tuple [x,y] q.2.1 q.2.2)) h1 fun a _=>on_elim (C:=fun y=>C (.Tuple [.Name a.1 a.2,y] q.2.1 q.2.2)) h2 fun b _=>g a.1 a.2 b.1 b.2 q.2.1 q.2.2
noncomputable def compOk (sl:Sl) (names:List (PySem.Str × NameKind)) (own:List PySem.Str):Bool:=own.all (fun n=>names.lookup n == some .local || names.lookup n == some .cell) && (decide own.Nodup && (decide ((names.map (·.1)).Nodup) &&
  names.all fun p=>p.2 != .free || sl.any fun q=>q.1 == p.1 && (q.2 == .cel || q.2 == .free)))
noncomputable def itPlain (t:It):Bool:=match t with
  | .enum _=>false
  | .zip _ _=>false
  | _=>true
noncomputable def isTupleT (e:Expr):Bool:=decide ((sh e).1 = .tup)
noncomputable def compIn (c:CkD) (q:Pay .lc) (g:Comprehension):CkD:=⟨relab c.names q.2.2.1.names,inner q.2.2.1.names (ownNames g.target) c.sl,c.nest - 1⟩
noncomputable def isLit (v:V):Bool:=match v with
  | .bytes b=>b.isEmpty
  | .str s=>s.isEmpty
  | _=>false
noncomputable def chkLc (c:CkD) (own:Nat) (pl:Bool) (elt:CkD→Expr→Bool) (it:Expr→Bool) (cd:CkD→List Expr→Bool) (e:Expr):Bool:=on .lc e fun q=>onOne q.2.1 fun g =>
  decide (0 < c.nest) && ((pl || isTupleT g.target) && ((g.is_async == 0) && (it g.iter && (((ownNames g.target).length == own) && (ownOk g.target && (compOk c.sl q.2.2.1.names (ownNames g.target) && ((q.2.2.1.kind == .function) && (elt (compIn c q g) q.1 && cd (compIn c q g) g.ifs))))))))
mutual
noncomputable def chkE (K:Frag) (c:CkD):E→Expr→Bool
  | .c v,e=>chkC K c v e
  | .l k,e=>on .name e fun q=>c.slot k q.1 (· != .hid)
  | .lc k,e=>on .name e fun q=>c.slot k q.1 fun p=>p == .cel || p == .free
  | .bin op a b,e=>on .bin e fun q=>decide (q.2.1=op.py) && (chkE K c a q.1 && chkE K c b q.2.2.1)
  | .neg a,e=>on .un e fun q=>decide (q.1 = .USub) && chkE K c a q.2.1
  | .cmp o a b,e=>on .cmp e fun q=>onOne q.2.1 fun p=>onOne q.2.2.1 fun r=>decide (p=o.py) && (chkE K c a q.1 && (chkE K c b r && !behindInMarks p r))
  | .ite t a b,e=>on .ife e fun q=>chkT K c t q.1 && (chkE K c a q.2.1 && chkE K c b q.2.2.1)
  | .attr a f,e=>on .attr e fun q=>(q.2.1 == f.str) && (chkE K c a q.1 && baseOk q.1)
  | .sub a i,e=>on .sub e fun q=>chkE K c a q.1 && (chkE K c i q.2.1 && notSlice q.2.1)
  | .upto a i,e=>on .sub e fun q=>on .slice q.2.1 fun r=>r.1.isNone && (r.2.2.1.isNone && onSome r.2.1 fun s=>chkE K c a q.1 && chkE K c i s)
  | .rev a,e=>on .sub e fun q=>on .slice q.2.1 fun r=>r.1.isNone && (r.2.1.isNone && onSome r.2.2.1 fun s=>on .un s (fun u=>decide (u.1 = .USub) && on .const u.2.1 fun k=>decide (k.1 = .int 1)) && chkE K c a q.1)
  | .tup es,e=>on .tup e fun q=>chkEs K c es q.1 && decide (es.length < 20)
  | .lst es,e=>on .lst e fun q=>chkEs K c es q.1
  | .dct kvs,e=>on .dct e fun q=>chkKs K c kvs q.1 q.2.1 && decide (kvs.length≤15)
  | .fn f es,e=>onCall e fun x xs=>c.glob K x (.ref f.addr) && (Nat.blt f 54 && chkEs K c es xs)
  | .me o f es,e=>chkMeth f.str (chkE K c o) (fun xs=>chkEs K c es xs && decide (es.length < 20)) e
  | .new k es,e=>onCall e fun x xs=>c.glob K x (.ref k.addr) && chkEs K c es xs
  | .var k es,e=>onCall e fun x xs=>c.slot k x (· != .hid) && chkEs K c es xs
  | .len a,e=>chkB K c (.builtin "len") (chkE K c a) e
  | .tuple a,e=>chkB K c (.type "tuple") (chkE K c a) e
  | .toInt a,e=>chkB K c (.type "int") (chkE K c a) e
  | .toBytes a,e=>chkB K c (.type "bytes") (chkE K c a) e
  | .ord a,e=>chkB K c (.builtin "ord") (chkE K c a) e
  | .sorted a,e=>chkB K c (.builtin "sorted") (chkE K c a) e
  | .max a,e=>chkB K c (.builtin "max") (chkE K c a) e
  | .str a,e=>chkB K c (.type "str") (chkE K c a) e
  | .repr a,e=>chkB K c (.builtin "repr") (chkE K c a) e
  | .listOf a,e=>chkB K c (.type "list") (chkE K c a) e
  | .listRange a,e=>chkB K c (.type "list") (chkB K c (.type "range") (chkE K c a)) e
  | .app o a,e=>chkMeth "append" (chkE K c o) (fun xs=>onOne xs fun y=>known y && chkE K c a y) e
  | .ext o a,e=>chkMeth "extend" (chkE K c o) (fun xs=>onOne xs fun y=>known y && chkE K c a y) e
  | .popAt o a,e=>chkMeth "pop" (chkE K c o) (fun xs=>onOne xs fun y=>known y && chkE K c a y) e
  | .join o a,e=>chkMeth "join" (fun x=>isLit o && on .const x fun q=>decide (cstOf o=some q.1)) (fun xs=>onOne xs fun y=>known y && chkE K c a y) e
  | .pop o,e=>chkMeth "pop" (chkE K c o) (fun xs=>xs.isEmpty) e
  | .comp elt own it cd,e=>chkLc c own (itPlain it) (fun c x=>chkE K c elt x) (fun x=>chkIt K c it x) (fun c l=>match cd with
      | none=>l.isEmpty
      | some cd=>onOne l fun f=>chkT K c cd f) e
termination_by structural e=>e
noncomputable def chkEs (K:Frag) (c:CkD):List E→List Expr→Bool
  | [],xs=>xs.isEmpty
  | a :: r,xs=>(match xs with | x :: t=>known x && (chkE K c a x && chkEs K c r t) | []=>false)
termination_by structural es=>es
noncomputable def chkKs (K:Frag) (c:CkD):List (E × E)→List (Option Expr)→List Expr→Bool
  | [],ks,xs=>ks.isEmpty && xs.isEmpty
  | p :: r,ks,xs=>(match ks with
    | k :: ks=>(match xs with | y :: ys=>onSome k fun x=>chkE K c p.1 x && (chkE K c p.2 y && chkKs K c r ks ys) | []=>false)
    | []=>false)
termination_by structural es=>es
noncomputable def chkT (K:Frag) (c:CkD):T→Expr→Bool
  | .e a,x=>asValue x && chkE K c a x
  | .not t,e=>on .un e fun q=>decide (q.1 = .Not) && chkT K c t q.2.1
  | .and a b,e=>on .bool e fun q=>decide (q.1 = .And) && onTwo q.2.1 fun x y=>chkT K c a x && chkT K c b y
  | .or a b,e=>on .bool e fun q=>decide (q.1 = .Or) && onTwo q.2.1 fun x y=>chkT K c a x && chkT K c b y
  | .cmp o a b,e=>on .cmp e fun q=>onOne q.2.1 fun p=>onOne q.2.2.1 fun r=>decide (p=o.py) && (chkE K c a q.1 && (chkE K c b r && !behindInMarks p r))
termination_by structural t=>t
noncomputable def chkIt (K:Frag) (c:CkD):It→Expr→Bool
  | .ex a,x=>known x && chkE K c a x
  | .range a,e=>chkB K c (.type "range") (chkE K c a) e
  | .enum a,e=>chkB K c (.type "enumerate") (chkE K c a) e
  | .zip a b,e=>chkTwo K c (.type "zip") (chkE K c a) (chkE K c b) e
termination_by structural t=>t
end
structure Cx where
  G:Ctx
  Kf:Frag
  O:Orc
  D:Nat
  facts:Facts G Kf
structure Pt where
  c:CkD
  A:Around
  env:Env
  E:Value→Shared→Prop
structure On (X:Cx) (p:Pt) (loc:Loc) (t:St X.G):Prop where
  names:p.env.scope.names=p.c.names
  room:Room p.A (X.D+20 * p.c.nest)
  fr:FR p.env p.c.sl loc t
theorem On.step {X:Cx}{p:Pt}{loc:Loc}{t t':St X.G} (o:On X p loc t) (st:Step none' t t'):On X p loc t':=⟨o.names,o.room,o.fr.step st⟩
section
variable (X:Cx)
noncomputable def EOk (e:E):Prop:=∀ (p:Pt) (x:Expr) (loc:Loc) (t:St X.G) (K:V→AH→Prop) (Q:Value→Shared→Prop),
  chkE X.Kf p.c e x=true→On X p loc t→evE X.O e loc t.H K→To RV t K Q→wpAny (model pw X.G.w) p.A (eval x p.env) Q p.E t.s
noncomputable def EsOk (es:List E):Prop:=∀ (p:Pt) (xs:List Expr) (pos:Pos) (loc:Loc) (t:St X.G) (K:List V→AH→Prop) (Q:List Value→Shared→Prop),
  chkEs X.Kf p.c es xs=true→On X p loc t→evEs X.O es loc t.H K→To (fun t vs us=>RVs t vs us∧vs.length=es.length) t K Q→wpAny (model pw X.G.w) p.A (spliced (backTo pos (starEach xs p.env))) Q p.E t.s
noncomputable def TOk (u:T):Prop:=∀ (p:Pt) (x:Expr) (loc:Loc) (t:St X.G) (K:Bool→AH→Prop) (Q:Bool→Shared→Prop),
  chkT X.Kf p.c u x=true→On X p loc t→evT X.O u loc t.H K→To RE t K Q→wpAny (model pw X.G.w) p.A (isTrue x p.env (eval x p.env)) Q p.E t.s
end
section
variable {X:Cx}
theorem glob_ok {p:Pt}{x:PySem.Str}{v:Value}{loc:Loc}{t:St X.G}{pos:Pos}{Q:Value→Shared→Prop} (o:On X p loc t) (h:p.c.glob X.Kf x v=true) (hq:Q v t.s):wpAny (model pw X.G.w) p.A (eval (.Name x pos) p.env) Q p.E t.s:=by
  refine and2 h fun h1 h=>and2 h fun h2 h3=>?_
  have F:=X.facts.here t
  refine Name_function_global o.fr.ok.kind (by show p.env.scope.names.lookup x=_;rw [o.names];exact eq_of_beq h1) ?_ ((Bool.not_eq_true' _).mp h3)
  unfold loadGlobal
  rw [o.fr.ok.glob,o.fr.ok.blt]
  obtain ⟨o',e1,e2⟩:=Option.bind_eq_some_iff.mp (eq_of_beq h2)
  refine wpAny_bind ((looks_nsIn F e1).here ?_)
  cases o' with
  | some v'=>obtain rfl:=Option.some.inj e2;exact wpAny_pure hq
  | none =>
    obtain ⟨o',e3,e4⟩:=Option.bind_eq_some_iff.mp e2
    obtain rfl:o'=some v:=e4
    exact wpAny_bind ((looks_nsIn F e3).here (wpAny_pure hq))
theorem slot_elim {c:CkD}{k:Nat}{x:PySem.Str}{f:Pk→Bool}{C:Prop} (h:c.slot k x f=true) (g:∀ p,c.sl[k]?=some (x,p)→f p=true→(x == ("__debug__" : PySem.Str))=false→(x == ("__classdict__" : PySem.Str))=false→C):C:=by
  unfold CkD.slot at h
  refine some_elim (C:=fun o=>c.sl[k]?=o→C) h (fun q g' e=>?_) rfl
  refine and2 g' fun h1 h=>and2 h fun h2 h=>and2 h fun h3 h4=>?_
  exact g q.2 (by rw [e,← eq_of_beq h1]) h2 (eq_of_beq h3) (eq_of_beq h4)
theorem const_ok {v:V}{k:Const}{n:Nat}{pos:Pos}{A:Around}{env:Env}{E:Value→Shared→Prop}{t:St X.G}{K:V→AH→Prop}{Q:Value→Shared→Prop} (h:cstOf v=some k) (e:K v t.H) (hq:To RV t K Q):wpAny (model pw X.G.w) A (eval (.Constant k n pos) env) Q E t.s:=by
  replace h:=optK_of h
  cases v with
  | none=>rw [← show _=k from h];exact wpAny_Constant_none (hq.mk e .none)
  | bool b=>rw [← show _=k from h];exact wpAny_Constant_bool (hq.mk e (.bool _))
  | int i=>rw [← show _=k from h];exact wpAny_Constant_int (hq.tok e (.int _ _))
  | str i=>rw [← show _=k from h];exact wpAny_Constant_str (hq.tok e (.str _ _))
  | bytes i=>rw [← show _=k from h];exact Constant_bytes (hq.tok e (.bytes _ _))
  | _=>exact False.elim h
theorem val_rel {G:Ctx}{ρ:List Addr}{h:Heap}{v:V}{u:Value}{t:Tok} (e:valOf t v=some u):VRel G ρ h v u:=by
  replace e:=optK_of e
  cases v with
  | int i=>exact (show _=u from e)▸.int _ _
  | str i=>exact (show _=u from e)▸.str _ _
  | bytes i=>exact (show _=u from e)▸.bytes _ _
  | fn f=>exact (show _=u from e)▸.fn _
  | _=>exact False.elim e
theorem ok_c (v:V):EOk X (.c v):=by
  intro p x loc t K Q h o e hq
  refine (bO h).elim (fun h=>?_) fun h=>?_
  · apply on_elim h;intro q g
    exact const_ok (of_decide_eq_true g) e hq
  · apply on_elim h;intro q g
    refine some_elim (C:=fun _=>_) g fun u g=>and2 g fun g1 g2=>glob_ok o g1 (hq.mk e (val_rel (eq_of_beq g2)))
theorem ok_l (k:Nat):EOk X (.l k):=by
  intro p x loc t K Q h o e hq
  apply on_elim h;intro q g
  exact slot_elim g fun pk h1 h2 h3 h4=>optK.elim e fun u hl e=>optK.elim e fun v hv e=>wpAny_Name (load_ok o.fr h1 (bne_iff_ne.mp h2) h4 (hv▸hl) e.1 e.2 hq) h3
theorem onCel_elim {v:V}{k:Nat→Prop}{C:Prop}{D:V→Prop} (d:D v) (e:v.onCel k) (f:∀ i,D (.cel i)→k i→C):C:=by cases v<;>first | exact False.elim e | exact f _ d e
theorem ok_lc (k:Nat):EOk X (.lc k):=by
  intro p x loc t K Q h o e hq
  apply on_elim h;intro q g
  refine slot_elim g fun pk h1 h2 h3 h4=>optK.elim e fun u hl e=>optK.elim e fun v hv e=>onCel_elim (D:=fun v=>loc[k]?=some (some v)) (hv▸hl) e fun i hl e=>?_
  exact wpAny_Name (loadc_ok o.fr h1 ((bO h2).imp eq_of_beq eq_of_beq) h4 hl e hq) h3
theorem ok_bin {op:Op}{a b:E} (ha:EOk X a) (hb:EOk X b):EOk X (.bin op a b):=by
  intro p x loc t K Q h o e hq
  apply on_elim h;intro q g
  refine and2 g fun g1 g=>and2 g fun g2 g3=>dec_elim (C:=fun o=>wpAny _ _ (eval (.BinOp q.1 o q.2.2.1 q.2.2.2) _) _ _ _) g1 ?_
  exact wpAny_BinOp (ha p _ loc t _ _ g2 o e fun t₁ x va st₁ e r₁=>hb p _ loc t₁ _ _ g3 (o.step st₁) e fun t₂ y vb st₂ e r₂=>bin_ok (r₁.later st₂.later) r₂ e (hq.after (st₁.trans st₂)))
theorem ok_neg {a:E} (ha:EOk X a):EOk X (.neg a):=by
  intro p x loc t K Q h o e hq
  apply on_elim h;intro q g
  refine and2 g fun g1 g2=>dec_elim (C:=fun o=>wpAny _ _ (eval (.UnaryOp o q.2.1 q.2.2) _) _ _ _) g1 ?_
  refine wpAny_UnaryOp (ha p _ loc t _ _ g2 o e fun t₁ x va st₁ e r₁=>?_)
  apply r₁.onInt e;intro i u e
  exact neg_int ((hq.after st₁).tok e (.int _ _))
theorem chkCmp_elim {K:Frag}{c:CkD}{o:Cm}{a b:E}{x:Expr}{C:Expr→Prop} (h:chkE K c (.cmp o a b) x=true) (f:∀ l r pos,chkE K c a l=true→chkE K c b r=true→behindInMarks o.py r=false→C (.Compare l [o.py] [r] pos)):C x :=
  on_elim h fun q g=>one_elim (C:=fun ops=>C (.Compare q.1 ops q.2.2.1 q.2.2.2)) g fun op g=>one_elim (C:=fun rs=>C (.Compare q.1 [op] rs q.2.2.2)) g fun r g =>
    and2 g fun g1 g=>and2 g fun g2 g=>and2 g fun g3 g4=>dec_elim (C:=fun op=>behindInMarks op r=false→C (.Compare q.1 [op] [r] q.2.2.2)) g1 (f q.1 r q.2.2.2 g2 g3) ((Bool.not_eq_true' _).mp g4)
theorem ok_cmp {p:Cm}{a b:E} (ha:EOk X a) (hb:EOk X b):EOk X (.cmp p a b):=by
  intro p x loc t K Q h o e hq
  apply chkCmp_elim h;intro l r pos g2 g3 g4
  exact wpAny_Compare1 (ha p l loc t _ _ g2 o e fun t₁ x va st₁ e r₁=>hb p r loc t₁ _ _ g3 (o.step st₁) e fun t₂ y vb st₂ e r₂=>cmp_ok o.room (r₁.later st₂.later) r₂ e (hq.after (st₁.trans st₂))) g4
theorem ok_ite {u:T}{a b:E} (hu:TOk X u) (ha:EOk X a) (hb:EOk X b):EOk X (.ite u a b):=by
  intro p x loc t K Q h o e hq
  apply on_elim h;intro q g
  refine and2 g fun g1 g=>and2 g fun g2 g3=>?_
  refine wpAny_IfExp (hu p _ loc t _ _ g1 o e fun t₁ r r' st₁ e hr=>?_)
  obtain rfl:r=r':=hr
  cases r with
  | true=>exact ha p _ loc t₁ _ _ g2 (o.step st₁) e (hq.after st₁)
  | false=>exact hb p _ loc t₁ _ _ g3 (o.step st₁) e (hq.after st₁)
theorem ok_attr {a:E}{f:Fd} (ha:EOk X a):EOk X (.attr a f):=by
  intro p x loc t K Q h o e hq
  apply on_elim h;intro q g
  refine and2 g fun g1 g=>and2 g fun g2 g3=>beq_elim (C:=fun n=>wpAny _ _ (eval (.Attribute q.1 n q.2.2) _) _ _ _) g1 ?_
  rw [arm_eval_Attribute,base_eq g3]
  exact wpAny_bind (ha p _ loc t _ _ g2 o e fun t₁ x va st₁ e r₁=>wpAny_bind (wpAny_standAt (wpAny_bind (wpAny_holding (getF_ok X.facts r₁ e fun t₂ v y st₂ e r₂=>wpAny_bind (wpAny_letTemporaryGo (wpAny_pure (hq t₂ v y (st₁.trans st₂) e r₂))))))))
end
section
variable {X:Cx}{A:Around}{E₀:Value→Shared→Prop}{s:Shared}{env:Env}
theorem sub_mk {o i:Value}:∀ {k:Sp}{q:Pay k},k≠.oth→k≠.slice→subscripted (k.mk q) false o i=operate [o,i] (getItem o i)
  | .name,_,_,_ | .const,_,_,_ | .bin,_,_,_ | .un,_,_,_ | .cmp,_,_,_ | .ife,_,_,_ | .attr,_,_,_ | .sub,_,_,_ | .tup,_,_,_ | .lst,_,_,_ | .dct,_,_,_ | .bool,_,_,_ | .lc,_,_,_ | .call,_,_,_=>rfl
  | .slice,_,_,h=>absurd rfl h
  | .oth,_,h,_=>absurd rfl h
theorem tail_ok {w:World}{value slice:Expr}{o i:Value}{l:List Value}{Q:Value→Shared→Prop} (hs:subscripted slice false o i=operate l (getItem o i)) (hx:GetI s o) (h:wpAny (model pw w) A (getItem o i) Q E₀ s) :
    wpAny (model pw w) A (subscriptTail value slice o i) Q E₀ s:=by
  obtain ⟨T,id,hT,hl⟩:=hx
  unfold subscriptTail
  refine wpAny_bind ?_
  rw [getitemInPython_of_ne hT.not_modules]
  refine wpAny_bind (wpAny_specialOf hT hl (wpAny_pure (wpAny_bind ?_)))
  rw [hs]
  exact (wpAny_operating (wpAny_mono h (fun r s₃ h₃=>wpAny_bind (wpAny_letTemporaryGo (wpAny_pure h₃))) fun _ _ x=>x))
theorem ok_sub {a i:E} (ha:EOk X a) (hi:EOk X i):EOk X (.sub a i):=by
  intro p x loc t K Q h o e hq
  apply on_elim h;intro q g
  refine and2 g fun g1 g=>and2 g fun g2 g3=>?_
  exact Subscript_ (ha p _ loc t _ _ g1 o e fun t₁ x va st₁ e r₁=>hi p _ loc t₁ _ _ g2 (o.step st₁) e fun t₂ y vb st₂ e r₂ =>
    have z:=subV_ok (r₁.later st₂.later) r₂ e (hq.after (st₁.trans st₂))
    tail_ok (by rw [← sh_mk q.2.1];exact sub_mk (of_decide_eq_true g3).1 (of_decide_eq_true g3).2) z.1 z.2)
theorem ok_upto {a i:E} (ha:EOk X a) (hi:EOk X i):EOk X (.upto a i):=by
  intro p x loc t K Q h o e hq
  apply on_elim h;intro q g
  refine on_elim (C:=fun s=>wpAny _ _ (eval (.Subscript q.1 s q.2.2) _) _ _ _) g fun r g=>and2 g fun g1 g=>and2 g fun g2 g=>none_elim (C:=fun o=>wpAny _ _ (eval (.Subscript q.1 (.Slice o r.2.1 r.2.2.1 r.2.2.2) q.2.2) _) _ _ _) g1
    (none_elim (C:=fun o=>wpAny _ _ (eval (.Subscript q.1 (.Slice none r.2.1 o r.2.2.2) q.2.2) _) _ _ _) g2 (some_elim (C:=fun o=>wpAny _ _ (eval (.Subscript q.1 (.Slice none o none r.2.2.2) q.2.2) _) _ _ _) g fun s g=>and2 g fun g1 g2=>?_))
  refine Subscript_ (ha p _ loc t _ _ g1 o e fun t₁ x va st₁ e r₁=>wpAny_Slice ?_)
  rw [evalPart_none,evalPart_some]
  refine wpAny_pure (hi p _ loc t₁ _ _ g2 (o.step st₁) e fun t₂ y vb st₂ e r₂=>wpAny_pure ?_)
  have st₃:=t₂.grown (own:=none') (keep_push { cls:=.type "slice",data:=.fields #[.none,vb,.none] }) t₂.s.toks
  have z:=uptoV_ok (A:=p.A) (E:=p.E) (t:=t₂.grow (keep_push { cls:=.type "slice",data:=.fields #[.none,vb,.none] }) t₂.s.toks) (r₁.later (st₂.trans st₃).later) (r₂.later st₃.later) e (hq.after ((st₁.trans st₂).trans st₃))
  exact tail_ok rfl z.1 (z.2 _ (Heap.IsSliceOf.new ..))
theorem ok_rev {a:E} (ha:EOk X a):EOk X (.rev a):=by
  intro p x loc t K Q h o e hq
  apply on_elim h;intro q g
  refine on_elim (C:=fun s=>wpAny _ _ (eval (.Subscript q.1 s q.2.2) _) _ _ _) g fun r g=>and2 g fun g1 g=>and2 g fun g2 g=>none_elim (C:=fun o=>wpAny _ _ (eval (.Subscript q.1 (.Slice o r.2.1 r.2.2.1 r.2.2.2) q.2.2) _) _ _ _) g1
    (none_elim (C:=fun o=>wpAny _ _ (eval (.Subscript q.1 (.Slice none o r.2.2.1 r.2.2.2) q.2.2) _) _ _ _) g2 (some_elim (C:=fun o=>wpAny _ _ (eval (.Subscript q.1 (.Slice none none o r.2.2.2) q.2.2) _) _ _ _) g fun s g=>and2 g fun g g1=>?_))
  refine on_elim (C:=fun s=>wpAny _ _ (eval (.Subscript q.1 (.Slice none none (some s) r.2.2.2) q.2.2) _) _ _ _) g fun u g=>and2 g fun g2 g=>dec_elim (C:=fun o=>wpAny _ _ (eval (.Subscript q.1 (.Slice none none (some (.UnaryOp o u.2.1 u.2.2)) r.2.2.2) q.2.2) _) _ _ _) g2
    (on_elim (C:=fun s=>wpAny _ _ (eval (.Subscript q.1 (.Slice none none (some (.UnaryOp .USub s u.2.2)) r.2.2.2) q.2.2) _) _ _ _) g fun k g=>dec_elim (C:=fun k'=>wpAny _ _ (eval (.Subscript q.1 (.Slice none none (some (.UnaryOp .USub (.Constant k' k.2.1 k.2.2) u.2.2)) r.2.2.2) q.2.2) _) _ _ _) g ?_)
  refine Subscript_ (ha p _ loc t _ _ g1 o e fun t₁ x va st₁ e r₁=>wpAny_Slice ?_)
  rw [evalPart_none,evalPart_some]
  refine wpAny_pure (wpAny_pure (wpAny_UnaryOp (wpAny_Constant_int (neg_int ?_))))
  have st₃:=t₁.grown (own:=none') (keep_push { cls:=.type "slice",data:=.fields #[.none,.none,.int (-1) (t₁.s.toks+1)] }) (t₁.s.toks+2)
  have z:=revV_ok (A:=p.A) (E:=p.E) (t:=t₁.grow (keep_push { cls:=.type "slice",data:=.fields #[.none,.none,.int (-1) (t₁.s.toks+1)] }) (t₁.s.toks+2)) (r₁.later st₃.later) e (hq.after (st₁.trans st₃)) (Heap.IsSliceOf.new ..)
  exact tail_ok rfl z.1 z.2
theorem star_mk:∀ {k:Sp}{q:Pay k}{t:List Expr},k≠.oth→starEach (k.mk q :: t) env=(false,eval (k.mk q) env) :: starEach t env
  | .name,_,_,_ | .const,_,_,_ | .bin,_,_,_ | .un,_,_,_ | .cmp,_,_,_ | .ife,_,_,_ | .attr,_,_,_ | .sub,_,_,_ | .slice,_,_,_ | .tup,_,_,_ | .lst,_,_,_ | .dct,_,_,_ | .bool,_,_,_ | .lc,_,_,_ | .call,_,_,_=>rfl
  | .oth,_,_,h=>absurd rfl h
theorem star_cons {x:Expr}{t:List Expr} (h:known x=true):starEach (x :: t) env=(false,eval x env) :: starEach t env:=by
  rw [← sh_mk x]
  exact star_mk (of_decide_eq_true h)
theorem es_nil:EsOk X []:=by
  intro p xs pos loc t K Q h o e hq
  exact empty_elim (C:=fun xs=>wpAny _ _ (spliced (backTo pos (starEach xs _))) _ _ _) h (args_nil (hq.mk e ⟨.nil,rfl⟩))
theorem es_cons {a:E}{r:List E} (ha:EOk X a) (hr:EsOk X r):EsOk X (a :: r):=by
  intro p xs pos loc t K Q h o e hq
  cases xs with
  | nil=>exact absurd h Bool.false_ne_true
  | cons x xs =>
    refine and2 h fun h1 h=>and2 h fun h2 h3=>args_cons (ha p x loc t _ _ h2 o e fun t₁ u va st₁ e r₁=>hr p xs pos loc t₁ _ _ h3 (o.step st₁) e fun t₂ us vs st₂ e r₂ =>
      hq _ _ _ (st₁.trans st₂) e ⟨.cons (r₁.later st₂.later) r₂.1,congrArg (·+1) r₂.2⟩) (star_cons h1)
theorem chkEs_plain {K:Frag}{c:CkD}{pos:Pos}:∀ {es:List E}{xs:List Expr},chkEs K c es xs=true→(backTo pos (starEach xs env)).any (·.1)=false∧xs.length=es.length
  | [],_,h=>empty_elim (C:=fun xs=>(backTo pos (starEach xs env)).any (·.1)=false∧xs.length=0) h ⟨rfl,rfl⟩
  | a :: r,[],h=>absurd h Bool.false_ne_true
  | a :: r,x :: t,h=>by
    refine and2 h fun h1 h=>and2 h fun _ h=>?_
    rw [star_cons h1]
    exact (chkEs_plain (es:=r) h).imp id (congrArg (·+1))
theorem ok_lst {es:List E} (he:EsOk X es):EOk X (.lst es):=by
  intro p x loc t K Q h o e hq
  apply on_elim h;intro q g
  exact wpAny_List (he p _ _ loc t _ _ g o e fun t₁ vs us st₁ e r=>⟨lim_size (by rw [← r.1.len];exact e.1),(hq.after st₁).newList (tk:=t₁.s.toks) r.1 e.2⟩)
theorem ok_tup {es:List E} (he:EsOk X es):EOk X (.tup es):=by
  intro p x loc t K Q h o e hq
  apply on_elim h;intro q g
  refine and2 g fun g1 g2=>wpAny_Tuple (he p _ _ loc t _ _ g1 o e fun t₁ vs us st₁ e r=>⟨?_,?_⟩)
  · rw [← r.1.len,r.2];exact Nat.le_trans (Nat.le_of_lt (of_decide_eq_true g2)) (by decide)
  · exact (hq.after st₁).grown (tk:=t₁.s.toks) (keep_push _) e fun L=>.tup (Heap.get?_push_size _ rfl) (t₁.sim.free (new_none _)) (L.all r.1)
theorem chkB_elim {K:Frag}{c:CkD}{v:Value}{r:Expr→Bool}{e:Expr}{C:Expr→Prop} (h:chkB K c v r e=true) (f:∀ x np y pos,c.glob K x v=true→known y=true→r y=true→C (.Call (.Name x np) [y] [] pos)):C e :=
  call_elim h fun x np xs pos g=>one_elim (C:=fun xs=>C (.Call (.Name x np) xs [] pos)) g fun y g=>and2 g fun g1 g=>and2 g fun g2 g3=>f x np y pos g1 g2 g3
theorem callB_ok {v:Value}{a:E} (hv:(∃ id,v = .builtin id)∨∃ id,v = .type id) (ha:EOk X a) {p:Pt}{x:Expr}{loc:Loc}{t:St X.G}{K:V→AH→Prop}{Q:Value→Shared→Prop} (h:chkB X.Kf p.c v (chkE X.Kf p.c a) x=true) (o:On X p loc t)
    (e:evE X.O a loc t.H K) (hq:∀ t' u va,Step none' t t'→K u t'.H→RV t' u va→wpAny (model pw X.G.w) p.A (call v [va]) Q p.E t'.s):wpAny (model pw X.G.w) p.A (eval x p.env) Q p.E t.s:=by
  apply chkB_elim h;intro x np y pos g1 g2 g3
  refine PySem.Call_name1 (star_cons g2) (glob_ok o g1 ?_)
  have z:=ha p y loc t _ (fun va s=>wpAny (model pw X.G.w) p.A (call v [va]) Q p.E s) g3 o e hq
  exact hv.elim (fun ⟨_,hv⟩=>by subst hv;exact PySem.callWith_builtin1 z) fun ⟨_,hv⟩=>by subst hv;exact PySem.callWith_type1 z
section
variable {a:E} (ha:EOk X a)
include ha
theorem ok_len:EOk X (.len a):=fun p x loc t K Q h o e hq=>callB_ok (.inl ⟨_,rfl⟩) ha h o e fun t₁ u va st₁ e r=>lenV_ok r e (hq.after st₁)
theorem ok_tuple:EOk X (.tuple a):=fun p x loc t K Q h o e hq=>callB_ok (.inr ⟨_,rfl⟩) ha h o e fun t₁ u va st₁ e r=>tupleV_ok r e (hq.after st₁)
theorem ok_toInt:EOk X (.toInt a):=fun p x loc t K Q h o e hq=>callB_ok (.inr ⟨_,rfl⟩) ha h o e fun t₁ u va st₁ e r=>toInt_ok r e (hq.after st₁)
theorem ok_toBytes:EOk X (.toBytes a):=fun p x loc t K Q h o e hq=>callB_ok (.inr ⟨_,rfl⟩) ha h o e fun t₁ u va st₁ e r=>bytesV_ok o.room r e (hq.after st₁)
theorem ok_ord:EOk X (.ord a):=fun p x loc t K Q h o e hq=>callB_ok (.inl ⟨_,rfl⟩) ha h o e fun t₁ u va st₁ e r=>ord_ok r e (hq.after st₁)
theorem ok_sorted:EOk X (.sorted a):=fun p x loc t K Q h o e hq=>callB_ok (.inl ⟨_,rfl⟩) ha h o e fun t₁ u va st₁ e r=>sortedV_ok o.room r e (hq.after st₁)
theorem ok_max:EOk X (.max a):=fun p x loc t K Q h o e hq=>callB_ok (.inl ⟨_,rfl⟩) ha h o e fun t₁ u va st₁ e r=>maxV_ok o.room r e (hq.after st₁)
theorem ok_str:EOk X (.str a):=fun p x loc t K Q h o e hq=>callB_ok (.inr ⟨_,rfl⟩) ha h o e fun t₁ u va st₁ e r=>str_ok r e (hq.after st₁)
theorem ok_repr:EOk X (.repr a):=fun p x loc t K Q h o e hq=>callB_ok (.inl ⟨_,rfl⟩) ha h o e fun t₁ u va st₁ e r=>repr_ok o.room r e (hq.after st₁)
theorem ok_listOf:EOk X (.listOf a):=fun p x loc t K Q h o e hq=>callB_ok (.inr ⟨_,rfl⟩) ha h o e fun t₁ u va st₁ e r=>listV_ok r e (hq.after st₁)
end
end
section
variable {X:Cx}{A:Around}{E₀:Value→Shared→Prop}{env:Env}{G:Ctx}{ρ:List Addr}{h h':Heap}
noncomputable abbrev PairR (G:Ctx) (ρ:List Addr) (h:Heap) (p:V × V) (q:Value × Value):Prop:=VRel G ρ h p.1 q.1∧VRel G ρ h p.2 q.2
theorem DictR.notFrozen {kvs:List (K × V)}{a:Addr} (r:DictR G ρ h kvs a) (x:Obj) (e:h.get? a=some x):¬ Frozen x:=by
  have go:∀ d:Knd G.w,d.In G ρ h kvs a→¬ Frozen x:=fun d D f=>D.elim fun l D=>D.1.elim fun o D=>D.elim fun es D=>D.elim fun ep D=>by
    obtain rfl:=Option.some.inj (e.symm.trans D.1)
    unfold Frozen at f;rw [D.2.2.1] at f;exact f
  exact r.elim (go _) fun r=>r.elim (go _) (go _)
theorem later_but {a:Addr} (sb:Heap.SameBut a h h') (nf:∀ o,h.get? a=some o→¬ Frozen o) (z:G.h₀.get? a=none):Later G ρ h ρ h' :=
  ⟨fun _ _ e=>e,fun b o e f n=>⟨(sb.2 b (fun q=>f.elim (fun f=>nf o (q▸e) f) fun f=>nomatch z.symm.trans (show G.h₀.get? a=some o from q▸f))).trans e,n⟩⟩
theorem putKs_elim {k x:V}{r:List (V × V)}{acc kvs:List (K × V)} (e:putKs ((k,x) :: r) acc=some kvs):optK k.key fun j=>acc.all (fun e=>e.1.sameKind j)=true∧acc.length < 15∧putKs r (putK acc j x)=some kvs:=by
  have e:(match k.key with | some j=>if acc.all (fun e=>e.1.sameKind j) && decide (acc.length < 15) then putKs r (putK acc j x) else none | none=>none)=some kvs:=e
  cases h:k.key with
  | none=>rw [h] at e;exact False.elim (optK_of e)
  | some j =>
    rw [h] at e
    by_cases c:(acc.all (fun e=>e.1.sameKind j) && decide (acc.length < 15))=true
    · exact and2 c fun c1 c2=>⟨c1,of_decide_eq_true c2,(if_pos c).symm.trans e⟩
    · exact False.elim (optK_of ((if_neg c).symm.trans e))
theorem storeAll_ok {a:Addr}{h₀:Heap} (z:G.h₀.get? a=none) {ps:List (V × V)}{vs:List (Value × Value)} (r:All2 (PairR G ρ h₀) ps vs):∀ {acc kvs:List (Mine.K × V)}{s:Shared}{Q:PUnit→Shared→Prop},Later G ρ h₀ ρ s.heap→DictR G ρ s.heap acc a→putKs ps acc=some kvs →
    (∀ h' tk,DictR G ρ h' kvs a→Heap.SameBut a s.heap h'→Q PUnit.unit { s with heap:=h',toks:=tk })→wpAny (model pw G.w) A (storeAll a vs) Q E₀ s:=by
  induction r with
  | nil =>
    intro acc kvs s Q L d e hq
    rw [← Option.some.inj e] at hq
    unfold storeAll
    rw [List.forIn_nil]
    exact wpAny_pure (hq s.heap s.toks d (Heap.SameBut.refl _ _))
  | @cons p q ps vs r _ ih =>
    intro acc kvs s Q L d e hq
    obtain ⟨k,v⟩:=p
    obtain ⟨j,x⟩:=q
    refine key_kind (r.1.later L) d (putKs_elim e) fun dk j' hkj e D' back=>letI:=dk.dec;D'.elim fun l D'=>?_
    unfold storeAll
    rw [List.forIn_cons]
    refine wpAny_bind (wpAny_bind (wpAny_dictSet_pairs hkj D'.1 (fun h₁ d₁ sb=>wpAny_pure ?_) (by rw [← All2.len D'.2];exact Nat.le_trans (Nat.le_of_lt e.1) (by decide))))
    have L₁:Later G ρ s.heap ρ h₁:=later_but sb d.notFrozen z
    have nd:=D'.1.elim fun _ d=>d.elim fun _ d=>d.elim fun _ d=>d.2.2.2.2.2
    exact ih (s:={ s with heap:=h₁,toks:=s.toks+1 }) (L.trans L₁) (back _ _ _ ⟨_,d₁,(D'.2.put dk.inj j' (r.2.later L) nd).later L₁⟩) e.2 fun h' tk d' sb'=>hq h' tk d' (sb.trans sb')
variable (X) in
noncomputable def KsOk (kvs:List (E × E)):Prop:=∀ (p:Pt) (ks:List (Option Expr)) (xs:List Expr) (pos:Pos) (loc:Loc) (t:St X.G) (K:List (V × V)→AH→Prop) (Q:List (Value × Value)→Shared→Prop),
  chkKs X.Kf p.c kvs ks xs=true→On X p loc t→evKs X.O kvs loc t.H K→To (fun t=>All2 (PairR X.G t.ρ t.s.heap)) t K Q→wpAny (model pw X.G.w) p.A (evalPairs (pairTrees ks xs p.env pos)) Q p.E t.s
theorem chkKs_elim {K:Frag}{c:CkD}{p:E × E}{r:List (E × E)}{ks:List (Option Expr)}{xs:List Expr}{C:List (Option Expr)→List Expr→Prop} (h:chkKs K c (p :: r) ks xs=true)
    (f:∀ x y ks xs,chkE K c p.1 x=true→chkE K c p.2 y=true→chkKs K c r ks xs=true→C (some x :: ks) (y :: xs)):C ks xs:=by
  cases ks with
  | nil=>exact absurd h Bool.false_ne_true
  | cons k ks=>cases xs with
    | nil=>exact absurd h Bool.false_ne_true
    | cons y xs=>exact some_elim (C:=fun k=>C (k :: ks) (y :: xs)) h fun x g=>and2 g fun g1 g=>and2 g fun g2 g3=>f x y ks xs g1 g2 g3
theorem ks_nil:KsOk X []:=by
  intro p ks xs pos loc t K Q h o e hq
  exact and2 h fun h1 h2=>empty_elim (C:=fun ks=>wpAny _ _ (evalPairs (pairTrees ks xs _ _)) _ _ _) h1 (empty_elim (C:=fun xs=>wpAny _ _ (evalPairs (pairTrees [] xs _ _)) _ _ _) h2 (evalPairs_nil (hq.mk e .nil)))
theorem ks_cons {k a:E}{r:List (E × E)} (hk:EOk X k) (ha:EOk X a) (hr:KsOk X r):KsOk X ((k,a) :: r):=by
  intro p ks xs pos loc t K Q h o e hq
  apply chkKs_elim h;intro x y ks xs g1 g2 g3
  exact evalPairs_cons (hk p x loc t _ _ g1 o e fun t₁ u va st₁ e r₁=>wpAny_bind (ha p y loc t₁ _ _ g2 (o.step st₁) e fun t₂ u vb st₂ e r₂=>wpAny_bind (wpAny_standAt (wpAny_pure
    (hr p ks xs pos loc t₂ _ _ g3 (o.step (st₁.trans st₂)) e fun t₃ us vs st₃ e r₃=>hq _ _ _ ((st₁.trans st₂).trans st₃) e (.cons ⟨r₁.later (st₂.trans st₃).later,r₂.later st₃.later⟩ r₃))))))
theorem chkKs_shape {K:Frag}{c:CkD}{kvs:List (E × E)}:∀ {ks:List (Option Expr)}{xs:List Expr},chkKs K c kvs ks xs=true→ks.all (·.isSome)=true∧ks.length=xs.length∧ks.length=kvs.length:=by
  induction kvs with
  | nil=>exact fun {ks xs} h=>and2 h fun h1 h2=>empty_elim (C:=fun ks=>ks.all (·.isSome)=true∧ks.length=xs.length∧ks.length=0) h1 (empty_elim (C:=fun xs=>([]:List (Option Expr)).all (·.isSome)=true∧0=xs.length∧0=0) h2 ⟨rfl,rfl,rfl⟩)
  | cons p r ih=>exact fun h=>chkKs_elim (C:=fun ks xs=>ks.all (·.isSome)=true∧ks.length=xs.length∧ks.length=r.length+1) h fun x y ks xs _ _ g=>⟨(ih g).1,congrArg (·+1) (ih g).2.1,congrArg (·+1) (ih g).2.2⟩
theorem ok_dct {kvs:List (E × E)} (hk:KsOk X kvs):EOk X (.dct kvs):=by
  intro p x loc t K Q h o e hq
  apply on_elim h;rintro ⟨ks,xs,pos⟩ g
  refine and2 g fun g1 g2=>?_
  obtain ⟨s1,s2,s3⟩:=chkKs_shape g1
  have e:evKs X.O kvs loc t.H fun vs H=>newDict vs H K:=e
  cases ks with
  | nil =>
    obtain rfl:=List.eq_nil_of_length_eq_zero s3.symm
    obtain rfl:=List.eq_nil_of_length_eq_zero s2.symm
    exact wpAny_Dict_empty (hq.fresh (o:=.dict []) (tk:=t.s.toks) (keep_push _) (new_none _) (fun L=>Or.inl (show DictIn X.G _ _ (strKind pw X.G.w) kS [] t.h.objs.size from ⟨[],Heap.DictOf.new _,.nil⟩)) e (.ref (ref_last t)))
  | cons k ks =>
    refine wpAny_Dict_any s1 s2 (fun q=>nomatch q) (s3▸of_decide_eq_true g2) ?_
    have hn:=new_none t.h
    have st₀:=t.grown (own:=none') (keep_push { cls:=.type "dict",data:=.dict #[] }) t.s.toks
    obtain ⟨ob,es,ep,k1,k2⟩:=Heap.DictOf.new (knd:=strKind pw X.G.w) t.h
    refine hk p _ xs pos loc (t.grow (keep_push { cls:=.type "dict",data:=.dict #[] }) t.s.toks) _ _ g1 (o.step st₀) e fun t₁ ps vs st₁ e r₁=>?_
    have na:t.h.objs.size∉t₁.ρ:=st₁.alone (t.sim.free hn) k1
    have d₁:DictR X.G t₁.ρ t₁.h [] t.h.objs.size:=Or.inl (show DictIn X.G t₁.ρ t₁.h (strKind pw X.G.w) kS [] t.h.objs.size from ⟨[],⟨ob,es,ep,st₁.keep _ _ k1 (t.sim.free hn) id,k2⟩,.nil⟩)
    refine optK.elim e fun rows e2 e=>storeAll_ok (t.sim.free0 hn) r₁ .refl d₁ e2 fun h' tk d' sb=>hq.enter (o:=.dict rows) (st₀.trans st₁) hn na d₁.notFrozen (fun b x ne q=>(sb.2 b ne).trans q) (fun L=>?_) e
    have Lw:Later X.G t₁.ρ h' (t₁.ρ++[t.h.objs.size]) h':=⟨fun i x e=>(List.getElem?_append_left (gS e).1).trans e,fun x o e f n=>⟨e,fun m=>(mA m).elim n fun m=>?_⟩⟩
    · exact ObjR.later Lw rfl d'
    · rw [mS m] at e f
      exact f.elim (d'.notFrozen o e) fun f=>nomatch (t.sim.free0 hn).symm.trans f
theorem rangeVs_get {n:Int}{i:Nat}{v:V} (e:(rangeVs n)[i]?=some v):v = .int i∧(i:Int) < n:=by
  unfold rangeVs at e
  rw [List.getElem?_map] at e
  obtain ⟨j,hj,rfl⟩:=Option.map_eq_some_iff.mp e
  obtain ⟨h1,h2⟩:=gS hj
  rw [List.getElem_range] at h2
  rw [List.length_range] at h1
  exact ⟨by rw [h2],Int.lt_toNat.mp h1⟩
theorem range_facts {k:Int} (h:0≤k∧k≤1000):Builtin.Range.rangeSize 0 k 1=(k.toNat:Int)∧Builtin.Range.small 0 k 1=true∧k.toNat≤2 ^ 24:=by
  obtain ⟨m,rfl⟩:=Int.eq_ofNat_of_zero_le h.1
  refine ⟨?_,small_one (by decide) (by decide) (Int.le_trans (by decide) h.1) (Int.lt_of_le_of_lt h.2 (by decide)),Nat.le_trans (Int.ofNat_le.mp h.2) (by decide)⟩
  rw [rangeSize_one]
  by_cases q:(0:Int) < m
  · rw [if_pos q,Int.sub_zero];rfl
  · rw [if_neg q];exact (Int.le_antisymm (Int.not_lt.mp q) h.1).symm
theorem all2_get {α β:Type}{R:α→β→Prop}:∀ {l:List α}{m:List β},l.length=m.length→(∀ (i:Nat) (a:α) (b:β),l[i]?=some a→m[i]?=some b→R a b)→All2 R l m
  | [],[],_,_=>.nil
  | a :: l,b :: m,e,f=>.cons (f 0 a b rfl rfl) (all2_get (Nat.succ.inj e) fun i=>f (i+1))
theorem ok_listRange {a:E} (ha:EOk X a):EOk X (.listRange a):=by
  intro p x loc t K Q h o e hq
  apply chkB_elim (h:chkB X.Kf p.c (.type "list") (chkB X.Kf p.c (.type "range") (chkE X.Kf p.c a)) x=true);intro x np y pos g1 g2 g3
  refine PySem.Call_name1 (star_cons g2) (glob_ok o g1 (PySem.callWith_type1 (callB_ok (.inr ⟨_,rfl⟩) ha g3 o e fun t₁ u va st₁ e r=>?_)))
  apply r.onInt e;intro k u e
  have z:=range_facts e.1
  refine call_range_1 (call_list_range o.room.handled (IsRange.new ..) z.2.1 z.1 z.2.2 fun h' tk acc' c' kp hS' hacc=>?_)
  rw [Heap.size_push] at hS' ⊢
  refine (hq.after st₁).newListAt (tk:=tk) (us:=acc'.toList) (fun a o q=>kp a o (Heap.get?_push_of_some _ q)) (new_none_at _ 1) hS' (fun _ L=>all2_get (by rw [rangeVs,List.length_map,List.length_range];exact hacc.1.symm) fun i v u e2 e3=>?_) e.2.2
  obtain ⟨tk',rfl⟩:=hacc.2 i u (by rw [← Array.getElem?_toList];exact e3)
  rw [(rangeVs_get e2).1,Int.zero_add,Int.mul_one]
  exact .int _ _
theorem type_list_append':typeOf (.builtin "list.append")=pure (.type "method_descriptor"):=by show builtinType _=_;rw [builtinType_eq_fast];kernel_rfl
theorem type_list_pop:typeOf (.builtin "list.pop")=pure (.type "method_descriptor"):=by show builtinType _=_;rw [builtinType_eq_fast];kernel_rfl
theorem type_list_extend:typeOf (.builtin "list.extend")=pure (.type "method_descriptor"):=by show builtinType _=_;rw [builtinType_eq_fast];kernel_rfl
theorem type_str_join:typeOf (.builtin "str.join")=pure (.type "method_descriptor"):=by show builtinType _=_;rw [builtinType_eq_fast];kernel_rfl
theorem list_method {s:Shared}{w:World}{a:Addr}{us:List Value}{n:Nat}{name:PySem.Str}{id:String}{pos:Pos}{args:List (Bool × Sem Value)}{Q:Value→Shared→Prop} (g:s.heap.get? a=some (lstObj us.toArray n)) (slot:Slot "list" name id)
    (ty:typeOf (.builtin id)=pure (.type "method_descriptor")) (h:wpAny (model pw w) A (callWith pos (.builtin id) [.ref a] args []) Q E₀ s):MethodOnS pw w A E₀ name (.ref a) pos args Q s :=
  ⟨"list",id,F.plainAttrs_list,slot,ty,⟨_,g,rfl⟩,fun b e=>Value.ref.inj e▸⟨_,g,rfl⟩,h⟩
theorem call_one {s:Shared}{w:World}{pos:Pos}{id:String}{f:Value}{t:Sem Value}{Q:Value→Shared→Prop} (h:wpAny (model pw w) A t (fun v s₁=>wpAny (model pw w) A (call (.builtin id) [f,v]) Q E₀ s₁) E₀ s) :
    wpAny (model pw w) A (callWith pos (.builtin id) [f] [(false,t)] []) Q E₀ s :=
  Calls.callWith_builtin rfl (Calls.evalArgs_plain (Calls.spliced_cons (wpAny_mono h (fun _ _ h₁=>Calls.spliced_nil h₁) fun _ _ e=>e)))
theorem chkMeth_elim {n:PySem.Str}{r:Expr→Bool}{as:List Expr→Bool}{e:Expr}{C:Expr→Prop} (h:chkMeth n r as e=true) (f:∀ x ap xs pos,r x=true→baseOk x=true→as xs=true→(ap.endLine == pos.line)=true→C (.Call (.Attribute x n ap) xs [] pos)):C e :=
  callA_elim h fun x m ap xs pos g=>and2 g fun g1 g=>and2 g fun g2 g=>and2 g fun g3 g=>and2 g fun g4 g5=>beq_elim (C:=fun m=>C (.Call (.Attribute x m ap) xs [] pos)) g1 (f x ap xs pos g2 g3 g4 g5)
theorem meth_ok {v o a:E}{n:PySem.Str}{id:String}{f:V→V→CM V} (ho:EOk X o) (ha:EOk X a) (slot:Slot "list" n id) (ty:typeOf (.builtin id)=pure (.type "method_descriptor"))
    (hf:∀ {A E₀}{t:St X.G}{x y:V}{va vb:Value}{K Q},RV t x va→RV t y vb→f x y t.H K→To RV t K Q→wpAny (model pw X.G.w) A (call (.builtin id) [va,vb]) Q E₀ t.s)
    {p:Pt}{x:Expr}{loc:Loc}{t:St X.G}{K:V→AH→Prop}{Q:Value→Shared→Prop} (h:chkMeth n (chkE X.Kf p.c o) (fun xs=>onOne xs fun y=>known y && chkE X.Kf p.c a y) x=true) (on:On X p loc t)
    (e:evE X.O o loc t.H fun u H=>rdList u H (evE X.O a loc H fun w H=>f u w H K)) (hq:To RV t K Q):wpAny (model pw X.G.w) p.A (eval x p.env) Q p.E t.s:=by
  apply chkMeth_elim h;intro x ap xs pos g2 g3 g4 g5
  refine one_elim (C:=fun xs=>wpAny _ _ (eval (.Call (.Attribute x n ap) xs [] pos) _) _ _ _) g4 fun y g4=>and2 g4 fun g4 g6=>?_
  refine PySem.Call_method1 (base_eq g3) (star_cons g4) g5 (ho p x loc t _ _ g2 on e fun t₁ u va st₁ e r₁=>?_)
  have r:=r₁
  revert r
  apply St.onList r₁ e;intro _ l us _ _ e _ g _ r
  exact list_method g slot ty (call_one (ha p y loc t₁ _ _ g6 (on.step st₁) e fun t₂ w vb st₂ e r₂=>hf (r.later st₂.later) r₂ e (hq.after (st₁.trans st₂))))
theorem ok_app {o a:E} (ho:EOk X o) (ha:EOk X a):EOk X (.app o a):=fun p x loc t K Q h on e hq=>meth_ok (v:=o) ho ha F.slot_list_append type_list_append' app_ok h on e hq
theorem ok_ext {o a:E} (ho:EOk X o) (ha:EOk X a):EOk X (.ext o a):=fun p x loc t K Q h on e hq=>meth_ok (v:=o) ho ha F.slot_list_extend type_list_extend ext_ok h on e hq
theorem ok_popAt {o a:E} (ho:EOk X o) (ha:EOk X a):EOk X (.popAt o a):=fun p x loc t K Q h on e hq=>meth_ok (v:=o) ho ha F.slot_list_pop type_list_pop popAt_ok h on e hq
theorem ok_pop {o:E} (ho:EOk X o):EOk X (.pop o):=by
  intro p x loc t K Q h on e hq
  apply chkMeth_elim (h:chkMeth "pop" (chkE X.Kf p.c o) (fun xs=>xs.isEmpty) x=true);intro x ap xs pos g2 g3 g4 g5
  refine empty_elim (C:=fun xs=>wpAny _ _ (eval (.Call (.Attribute x "pop" ap) xs [] pos) _) _ _ _) g4 ?_
  refine PySem.Call_method0 (base_eq g3) g5 (ho p x loc t _ _ g2 on e fun t₁ u va st₁ e r₁=>?_)
  have r:=r₁
  revert r
  apply St.onList r₁ e;intro _ l us _ _ _ _ g _ r
  exact list_method g F.slot_list_pop type_list_pop (Calls.callWith_builtin rfl (PyProof.Rows.evalArgs_none (pop_ok r e (hq.after st₁))))
theorem isLit_elim {v:V}{C:V→Prop} (h:isLit v=true) (f:C (.bytes [])) (g:C (.str [])):C v:=by
  cases v with
  | bytes b=>exact empty_elim (C:=fun b=>C (.bytes b)) h f
  | str b=>exact empty_elim (C:=fun b=>C (.str b)) h g
  | _=>exact absurd h Bool.false_ne_true
theorem ok_join {v:V}{a:E} (ha:EOk X a):EOk X (.join v a):=by
  intro p x loc t K Q h on' e hq
  apply chkMeth_elim (h:chkMeth "join" (fun x=>isLit v && on .const x fun q=>decide (cstOf v=some q.1)) (fun xs=>onOne xs fun y=>known y && chkE X.Kf p.c a y) x=true);intro x ap xs pos g2 g3 g4 g5
  refine one_elim (C:=fun xs=>wpAny _ _ (eval (.Call (.Attribute x "join" ap) xs [] pos) _) _ _ _) g4 fun y g4=>and2 g4 fun g4 g6=>?_
  refine PySem.Call_method1 (base_eq g3) (star_cons g4) g5 ?_
  refine and2 g2 fun l1 g=>on_elim (C:=fun x=>wpAny _ _ (eval x _) _ _ _) g fun q g=>?_
  have tk:=t.grown (own:=none') (fun _ _ q=>q) (t.s.toks+1)
  have ha':=fun K' Q'=>ha p y loc (t.grow (fun _ _ q=>q) (t.s.toks+1)) K' Q' g6 (on'.step tk)
  have hq':=fun t₂ (st₂:Step none' _ t₂)=>hq.after (tk.trans st₂)
  refine isLit_elim (C:=fun v=>cstOf v=some q.1→(evE X.O a loc t.H fun b H=>joinV v b H K)→_) l1 (fun g e=>?_) (fun g e=>?_) (of_decide_eq_true g) e
  · refine Eq.subst (motive:=fun k=>wpAny _ _ (eval (.Constant k _ _) _) _ _ _) (Option.some.inj g) (Constant_bytes ⟨"bytes","bytes.join",FB.plainAttrs_bytes,slot_bytes_join,type_bytes_join,typeIs_bytes _ _ _,fun a e=>(nomatch e),call_one (ha' _ _ e fun t₂ w vb st₂ e r₂=>?_)⟩)
    apply r₂.onRef e;intro _ _ e ha
    exact St.lst ha e fun us c vs e g r=>e.2.elim (fun e=>join_bytes_ok g r e.2 (hq' t₂ st₂)) fun e=>nomatch e.1
  · refine Eq.subst (motive:=fun k=>wpAny _ _ (eval (.Constant k _ _) _) _ _ _) (Option.some.inj g) (wpAny_Constant_str ⟨"str","str.join",F.plainAttrs_str,F.slot_str_join,type_str_join,typeIs_str _ _ _,fun a e=>(nomatch e),call_one (ha' _ _ e fun t₂ w vb st₂ e r₂=>?_)⟩)
    apply r₂.onRef e;intro _ _ e ha
    exact St.lst ha e fun us c vs e g r=>e.2.elim (fun e=>nomatch e.1) fun e=>join_str_ok g r e.2 (hq' t₂ st₂)
end
noncomputable def isRec (T:String) (o:Obj):Prop:=o.cls = .type T∧∃ vs,o.data = .fields vs
noncomputable def isIt (T:String) (vs:Array Value) (o:Obj):Prop:=o.cls = .type T∧o.data = .fields vs
inductive TupIt (G:Ctx) (ρ:List Addr) (h:Heap) (vs:List V) (p:Nat) (I:Addr):Prop
  | mk {n:Nat}{t:Addr}{us:List Value} (ht:h.get? t=some (tupObj us.toArray n)) (nt:t∉ρ) (r:All2 (VRel G ρ h) vs us) (hit:h.IsTupleIter I t p)
inductive EnumIt (ρ:List Addr) (h:Heap) (i p:Nat) (e it:Addr):Prop
  | mk {l:Addr}{old:Value} (hl:ρ[i]?=some l) (he:IsEnum h e it p old) (hit:h.IsListIter it l p) (hne:e≠it)
inductive ZipIt (ρ:List Addr) (h:Heap) (i j k p:Nat) (z i1 i2:Addr):Prop
  | mk {l1 l2 TI TO:Addr} (h1:ρ[i]?=some l1) (h2:ρ[j]?=some l2) (hk:ρ[k]?=some TO) (hz:IsZip h z TI TO .none) (hTI:IsPair h TI (.ref i1) (.ref i2)) (nTI:TI∉ρ)
      (hi1:h.IsListIter i1 l1 p) (hi2:h.IsListIter i2 l2 p) (D:ZipApart z TI TO i1 i2 l1 l2)
inductive ItAt (G:Ctx) (ρ:List Addr) (h:Heap):Iter→Nat→Addr→List Addr→Prop
  | live {i p l I} (hl:ρ[i]?=some l) (hit:h.IsListIter I l p):ItAt G ρ h (.live i) p I [I]
  | tup {vs p I} (x:TupIt G ρ h vs p I):ItAt G ρ h (.vals vs) p I [I]
  | strA {cs p I t} (hit:h.IsStrIter I "str_ascii_iterator" (toStr cs) t p):ItAt G ρ h (.vals (cs.map fun c=>.str [c])) p I [I]
  | strW {cs p I t} (hit:h.IsStrIter I "str_iterator" (toStr cs) t p):ItAt G ρ h (.vals (cs.map fun c=>.str [c])) p I [I]
  | bytes {b:List UInt8}{p I t} (hit:KBw.IsBytesIter h I b.toArray t p):ItAt G ρ h (.vals (b.map fun c=>.int c.toNat)) p I [I]
  | range {n:Int}{p:Nat}{I} (hp:(p:Int)≤n) (hit:IsRangeIter h I p (n - p) 1):ItAt G ρ h (.vals (rangeVs n)) p I [I]
  | enum {i p e it} (x:EnumIt ρ h i p e it):ItAt G ρ h (.enum i) p e [e,it]
  | zip {i j k p z i1 i2} (x:ZipIt ρ h i j k p z i1 i2):ItAt G ρ h (.zip i j k) p z [z,i1,i2]
structure Off {G:Ctx} (t:St G) (fp:List Addr):Prop where
  rho:∀ a,a∈fp→a∉t.ρ
  base:∀ a,a∈fp→G.h₀.get? a=none
section
variable {G:Ctx}{A:Around}{E₀:Value→Shared→Prop}{t t':St G}{ρ ρ':List Addr}{h h':Heap}{it:Iter}{p:Nat}{I:Addr}{fp:List Addr}{own:Addr→Prop}
theorem nf_rec {o:Obj}{vs:Array Value}{T:String} (hc:o.cls = .type T) (hd:o.data = .fields vs) (hT:T≠"code"):¬ Frozen o:=fun f=>by
  unfold Frozen at f;rw [hd] at f
  exact hT (Value.type.inj (hc.symm.trans f))
noncomputable def Nf (h:Heap) (a:Addr):Prop:=∃ o,h.get? a=some o∧¬ Frozen o
theorem nf_it {a:Addr}{T:String}{vs:Array Value} (x:At h a (isIt T vs)) (hT:T≠"code"):Nf h a:=x.imp fun _ e=>⟨e.1,nf_rec e.2.1 e.2.2 hT⟩
theorem all1 {P:Addr→Prop}{a:Addr} (h:P a):∀ x,x∈[a]→P x:=fun _ m=>(mS m).symm▸h
theorem allc {P:Addr→Prop}{a:Addr}{l:List Addr} (h:P a) (k:∀ x,x∈l→P x):∀ x,x∈a :: l→P x:=fun x m=>(mZ m).elim (fun q=>q.symm▸h) (k x)
theorem ItAt.nf (x:ItAt G ρ h it p I fp):∀ a,a∈fp→Nf h a :=
  ItAt.rec (motive:=fun _ _ _ fp _=>∀ a,a∈fp→Nf h a) (fun _ hit=>all1 (nf_it hit (by decide))) (fun x=>x.rec fun _ _ _ hit=>all1 (nf_it hit (by decide))) (fun hit=>all1 (nf_it hit (by decide))) (fun hit=>all1 (nf_it hit (by decide))) (fun hit=>all1 (nf_it hit (by decide)))
    (fun _ hit=>all1 ⟨_,hit,nf_rec (T:="range_iterator") rfl rfl (by decide)⟩) (fun x=>x.rec fun _ he hit _=>allc ⟨_,he,nf_rec (T:="enumerate") rfl rfl (by decide)⟩ (all1 (nf_it hit (by decide))))
    (fun x=>x.rec fun _ _ _ hz _ _ hi1 hi2 _=>allc ⟨_,hz,nf_rec (T:="zip") rfl rfl (by decide)⟩ (allc (nf_it hi1 (by decide)) (all1 (nf_it hi2 (by decide))))) x
theorem At.same {a:Addr}{P:Obj→Prop} (k:∀ o,h.get? a=some o→h'.get? a=some o) (x:At h a P):At h' a P:=x.imp fun _ e=>⟨k _ e.1,e.2⟩
theorem ItAt.keep (L:Later G ρ h ρ' h') (k:∀ a,a∈fp→∀ o,h.get? a=some o→h'.get? a=some o) (x:ItAt G ρ h it p I fp):ItAt G ρ' h' it p I fp :=
  ItAt.rec (motive:=fun it p I fp _=>(∀ a,a∈fp→∀ o,h.get? a=some o→h'.get? a=some o)→ItAt G ρ' h' it p I fp)
    (fun hl hit k=>.live (L.ext _ _ hl) (At.same (k _ (List.mem_cons_self ..)) hit))
    (fun x k=>.tup (x.rec fun ht nt r hit=>⟨(L.fix _ _ ht (.inl rfl) nt).1,(L.fix _ _ ht (.inl rfl) nt).2,L.all r,At.same (k _ (List.mem_cons_self ..)) hit⟩))
    (fun hit k=>.strA (At.same (k _ (List.mem_cons_self ..)) hit))
    (fun hit k=>.strW (At.same (k _ (List.mem_cons_self ..)) hit))
    (fun hit k=>.bytes (At.same (k _ (List.mem_cons_self ..)) hit))
    (fun hp hit k=>.range hp (k _ (List.mem_cons_self ..) _ hit))
    (fun x k=>.enum (x.rec fun hl he hit hne=>⟨L.ext _ _ hl,k _ (List.mem_cons_self ..) _ he,At.same (k _ (List.mem_cons_of_mem _ (List.mem_cons_self ..))) hit,hne⟩))
    (fun x k=>.zip (x.rec fun h1 h2 hk hz hTI nTI hi1 hi2 D =>
      have z:=L.fix _ _ hTI (.inl rfl) nTI
      ⟨L.ext _ _ h1,L.ext _ _ h2,L.ext _ _ hk,k _ (List.mem_cons_self ..) _ hz,z.1,z.2,At.same (k _ (List.mem_cons_of_mem _ (List.mem_cons_self ..))) hi1,At.same (k _ (List.mem_cons_of_mem _ (List.mem_cons_of_mem _ (List.mem_cons_self ..)))) hi2,D⟩)) x k
theorem ItAt.step (st:Step own t t') (off:Off t fp) (no:∀ a,a∈fp→¬ own a) (x:ItAt G t.ρ t.h it p I fp):ItAt G t'.ρ t'.h it p I fp∧Off t' fp :=
  ⟨x.keep st.later fun a m o e=>st.keep a o e (off.rho a m) (no a m),fun a m=>(x.nf a m).elim fun o e=>st.alone (off.rho a m) e.1,off.base⟩
theorem ItAt.fix (x:ItAt G t.ρ t.h it p I fp) (off:Off t fp) (a:Addr) (o:Obj) (m:a∈fp) (e:t.h.get? a=some o):a∉t.ρ∧¬ Fix G a o :=
  ⟨off.rho a m,fun f=>f.elim (fun f=>(x.nf a m).elim fun o' e'=>e'.2 (Option.some.inj (e'.1.symm.trans e)▸f)) fun f=>nomatch (off.base a m).symm.trans f⟩
theorem ItAt.drop {s:St G} (x:ItAt G t.ρ t.h it p I fp) (off:Off t fp) (st:Step own s t) (f0:∀ a,a∈fp→s.h.get? a=none) {h':Heap} (k:∀ a o,t.h.get? a=some o→a∉fp→h'.get? a=some o) (tk:Nat) :
    Step own s (t.turn (own:=(·∈fp)) k (fun a o=>x.fix off a o) tk) :=
  have nf:∀ a o,s.h.get? a=some o→a∉fp:=fun a o e m=>nomatch (f0 a m).symm.trans e
  ⟨⟨st.later.ext,fun a o e f q=>have z:=st.later.fix a o e f q;⟨k a o z.1 (nf a o e),z.2⟩⟩,st.fresh,fun a o e q r=>k a o (st.keep a o e q r) (nf a o e),
    fun a o e=>(st.alive a o e).imp fun o' e'=>k a o' e' (nf a o e),congrArg (fun s:Shared=>{ s with heap:=h',toks:=tk }) st.rest⟩
theorem letOwned_skip {w:World}{s:Shared}{target:Expr}{I:Addr}{x:Value}{T:String}{Q:Unit→Shared→Prop} (ho:At s.heap I (isRec T))
    (hT:(["enumerate","zip","dict_itemiterator","dict_reverseitemiterator","odict_iterator","itertools.zip_longest","itertools.pairwise"].contains T)=false) (h:Q () s):wpAny (model pw w) A (letOwnedTupleGo target (.ref I) x) Q E₀ s:=by
  obtain ⟨⟨c,d,dt,sl⟩,ho,hc,vs,hd⟩:=ho
  obtain rfl:c = .type T:=hc
  obtain rfl:dt = .fields vs:=hd
  have main:∀ p x,wpAny (model pw w) A (letOwnedTupleGo (.List [] p) (.ref I) x) Q E₀ s:=fun p x=>by
    cases x with
    | ref a=>exact wpAny_bind (m:=load I) (wpAny_load ho (bm_if_false (by rw [hT];rfl) (wpAny_pure h)))
    | _=>exact wpAny_pure h
  cases target with
  | Tuple a b p=>exact main p x
  | List a p=>exact main p x
  | _=>exact wpAny_pure h
noncomputable def plainIt (it:Iter):Bool:=match it with
  | .enum _=>false
  | .zip _ _ _=>false
  | _=>true
structure NextQ (t:St G) (it:Iter) (p:Nat) (I:Addr) (fp:List Addr) (N:Prop) (K:V→Prop) (Qn:Shared→Prop) (Qs:Value→Shared→Prop):Prop where
  fin:N→∀ h' tk,(∀ a o,t.h.get? a=some o→a∉fp→h'.get? a=some o)→Qn { t.s with heap:=h',toks:=tk }
  item:∀ v x t',K v→Step (·∈fp) t t'→t'.H=t.H→RV t' v x→ItAt G t'.ρ t'.h it (p+1) I fp→Qs x t'.s
noncomputable def nextP (w:World) (A:Around) (E:Value→Shared→Prop) (target:Expr) (I:Addr) (Qn:Shared→Prop) (Qs:Value→Shared→Prop) (r:Option Value):Shared→Prop:=match r with
  | none=>Qn
  | some y=>wpAny (model pw w) A (letOwnedTupleGo target (.ref I) y) (fun _ s₂=>Qs y s₂) E
noncomputable def NextOk (t:St G) (it:Iter) (p:Nat) (I:Addr) (fp:List Addr):Prop:=∀ (A:Around) (E₀:Value→Shared→Prop) (target:Expr) (N:Prop) (K:V→Prop) (Qn:Shared→Prop) (Qs:Value→Shared→Prop),
  A.handled=none→(plainIt it || isTupleT target)=true→Off t fp→itK it p t.H N K→NextQ t it p I fp N K Qn Qs→wpAny (model pw G.w) A (pyNext (.ref I)) (nextP G.w A E₀ target I Qn Qs) E₀ t.s
variable {target:Expr}{N:Prop}{K:V→Prop}{Qn:Shared→Prop}{Qs:Value→Shared→Prop}
theorem next_single {T:String}{r:Option V} (e:optB r N K) (x:ItAt G t.ρ t.h it p I [I]) (off:Off t [I]) (q:NextQ t it p I [I] N K Qn Qs)
    (hT:(["enumerate","zip","dict_itemiterator","dict_reverseitemiterator","odict_iterator","itertools.zip_longest","itertools.pairwise"].contains T)=false)
    (go:r=none→∀ Q:Option Value→Shared→Prop,(∀ h',Heap.ExtBut I t.h h'→Q none { t.s with heap:=h' })→wpAny (model pw G.w) A (pyNext (.ref I)) Q E₀ t.s)
    (gi:∀ v,r=some v→∀ Q:Option Value→Shared→Prop,(∀ h' tk y,Heap.SameBut I t.h h'→At h' I (isRec T)→(Later G t.ρ t.h t.ρ h'→VRel G t.ρ h' v y∧ItAt G t.ρ h' it (p+1) I [I])→Q (some y) { t.s with heap:=h',toks:=tk }) →
        wpAny (model pw G.w) A (pyNext (.ref I)) Q E₀ t.s):wpAny (model pw G.w) A (pyNext (.ref I)) (nextP G.w A E₀ target I Qn Qs) E₀ t.s:=by
  cases r with
  | none=>exact go rfl _ fun h' hs=>q.fin e h' t.s.toks fun a o e n=>hs a o (fun z=>n (List.mem_singleton.mpr z)) e
  | some v =>
    refine gi v rfl _ fun h' tk y hs ho hv=>?_
    have k:∀ a o,t.h.get? a=some o→¬ a∈[I]→h'.get? a=some o:=fun a o e n=>(hs.2 a fun z=>n (List.mem_singleton.mpr z)).trans e
    have st:=t.owns k (fun a o=>x.fix off a o) (fun a o m _=>by rw [mS m];exact ho.imp fun _ e=>e.1) tk
    have z:=hv st.later
    exact letOwned_skip (s:={ t.s with heap:=h',toks:=tk }) ho hT (q.item v y _ e st rfl z.1 z.2)
theorem rec_of {a:Addr}{T:String}{vs:Array Value} (x:At h a (isIt T vs)):At h a (isRec T):=x.imp fun _ e=>⟨e.1,e.2.1,vs,e.2.2⟩
theorem none_ge {α:Type}{l:List α}{p:Nat} (e:l[p]?=none) {β:Type}{m:List β} (h:l.length=m.length):m.toArray[p]?=none:=by
  rw [List.getElem?_toArray]
  exact List.getElem?_eq_none_iff.mpr (h▸List.getElem?_eq_none_iff.mp e)
theorem next_live {i:Nat}{l:Addr} (hl:t.ρ[i]?=some l) (hit:t.h.IsListIter I l p):NextOk t (.live i) p I [I]:=fun A E₀ target N K Qn Qs hh _ off e q =>
  St.lst hl e fun us n vs e g r=>next_single (T:="list_iterator") e (.live hl hit) off q (by decide) (fun h Q k=>wpAny_pyNext_list_end hh hit (lstObj_is g) (none_ge h r.len) k)
    fun v h Q k=>r.get h fun y y1 y2=>wpAny_pyNext_list_item hit (lstObj_is g) (x:=y) (by rw [List.getElem?_toArray];exact y1) fun h' hit' hs=>k h' t.s.toks y hs (rec_of (vs:=_) hit') fun L=>⟨y2.later L,.live hl hit'⟩
theorem next_tup {vs:List V} (x:TupIt G t.ρ t.h vs p I):NextOk t (.vals vs) p I [I]:=fun A E₀ target N K Qn Qs hh _ off e q=>x.rec fun ht nt r hit =>
  next_single (T:="tuple_iterator") e (.tup ⟨ht,nt,r,hit⟩) off q (by decide) (fun h Q k=>wpAny_pyNext_tuple_end hh hit (tupObj_is ht) (none_ge h r.len) k)
    fun v h Q k=>r.get h fun y y1 y2=>wpAny_pyNext_tuple_item hit (tupObj_is ht) (x:=y) (by rw [List.getElem?_toArray];exact y1) fun h' hit' hs=>k h' t.s.toks y hs (rec_of (vs:=_) hit') fun L =>
      ⟨y2.later L,.tup ⟨(L.fix _ _ ht (.inl rfl) nt).1,nt,L.all r,hit'⟩⟩
theorem map_get {α:Type}{f:α→V}{l:List α}{p:Nat}{v:V}{C:Prop} (h:(l.map f)[p]?=some v) (g:∀ c,l[p]?=some c→v=f c→C):C:=by
  rw [List.getElem?_map] at h
  obtain ⟨c,h1,h2⟩:=Option.map_eq_some_iff.mp h
  exact g c h1 h2.symm
theorem next_strA {cs:List Nat}{u:Tok} (hit:t.h.IsStrIter I "str_ascii_iterator" (toStr cs) u p):NextOk t (.vals (cs.map fun c=>.str [c])) p I [I]:=fun A E₀ target N K Qn Qs hh _ off e q =>
  next_single (T:="str_ascii_iterator") e (.strA hit) off q (by decide) (fun h Q k=>wpAny_pyNext_ascii_end hh hit (none_ge h (List.length_map ..)) k)
    fun v h Q k=>map_get h fun c h1 h2=>wpAny_pyNext_ascii_item hit (c:=c) ((List.getElem?_toArray ..).trans h1) fun h' hit' hs=>k h' _ _ hs (rec_of (vs:=_) hit') fun L=>⟨h2▸.str [c] _,.strA hit'⟩
theorem next_strW {cs:List Nat}{u:Tok} (hit:t.h.IsStrIter I "str_iterator" (toStr cs) u p):NextOk t (.vals (cs.map fun c=>.str [c])) p I [I]:=fun A E₀ target N K Qn Qs hh _ off e q =>
  next_single (T:="str_iterator") e (.strW hit) off q (by decide) (fun h Q k=>wpAny_pyNext_wide_end hh hit (none_ge h (List.length_map ..)) k)
    fun v h Q k=>map_get h fun c h1 h2=>wpAny_pyNext_wide_item hit (c:=c) ((List.getElem?_toArray ..).trans h1) fun h' hit' hs=>k h' _ _ hs (rec_of (vs:=_) hit') fun L=>⟨h2▸.str [c] _,.strW hit'⟩
theorem next_bytes {b:List UInt8}{u:Tok} (hit:KBw.IsBytesIter t.h I b.toArray u p):NextOk t (.vals (b.map fun c=>.int c.toNat)) p I [I]:=fun A E₀ target N K Qn Qs hh _ off e q =>
  next_single (T:="bytes_iterator") e (.bytes hit) off q (by decide) (fun h Q k=>KBw.next_end hh hit (none_ge h (List.length_map ..)) k)
    fun v h Q k=>map_get h fun c h1 h2=>KBw.next_item hit (c:=c) ((List.getElem?_toArray ..).trans h1) fun h' hit' hs=>k h' _ _ hs (rec_of (vs:=_) hit') fun L=>⟨h2▸.int _ _,.bytes hit'⟩
theorem next_range {n:Int} (hp:(p:Int)≤n) (hit:IsRangeIter t.h I p (n - p) 1):NextOk t (.vals (rangeVs n)) p I [I]:=by
  intro A E₀ target N K Qn Qs hh _ off e q
  refine next_single (T:="range_iterator") e (.range hp hit) off q (by decide) (fun h Q k=>wpAny_pyNext_range_end hh hit ?_ k)
    fun v h Q k=>wpAny_pyNext_range_item hit ?_ fun h' hit' hs=>k h' _ _ hs ⟨_,hit',rfl,_,rfl⟩ fun L=>⟨(rangeVs_get h).1▸.int _ _,.range (rangeVs_get h).2 ?_⟩
  · have:=List.getElem?_eq_none_iff.mp h
    rw [rangeVs,List.length_map,List.length_range] at this
    omega
  · have:=(rangeVs_get h).2
    omega
  · rw [Int.natCast_add,← Int.sub_sub];exact hit'
end
section
variable {G:Ctx}{A:Around}{E₀:Value→Shared→Prop}{t t':St G}{ρ ρ':List Addr}{h h':Heap}{p:Nat}{I:Addr}{fp:List Addr}{own:Addr→Prop}{elts:List Expr}{x1:Nat}{tpos:Pos}{N:Prop}{K:V→Prop}{Qn:Shared→Prop}{Qs:Value→Shared→Prop}
theorem tup_elim {e:Expr}{C:Expr→Prop} (h:isTupleT e=true) (f:∀ elts k pos,C (.Tuple elts k pos)):C e:=by
  have h:(sh e).1 = .tup:=of_decide_eq_true h
  rw [← sh_mk e]
  generalize sh e=q at h
  obtain ⟨k,q⟩:=q
  obtain rfl:k = .tup:=h
  exact f _ _ _
theorem next_enum {i:Nat}{e it:Addr} (x:EnumIt t.ρ t.h i p e it):NextOk t (.enum i) p e [e,it]:=by
  intro A E₀ target N K Qn Qs hh ht off ek q
  apply tup_elim (e:=target) ht;intro elts x1 tpos
  have X:ItAt G t.ρ t.h (.enum i) p e [e,it]:=.enum x
  obtain ⟨hl,he,hit,hne⟩:=x
  refine St.lst hl ek fun us n vs ek g r=>?_
  have l1:=lstObj_is g
  cases hv:vs[p]? with
  | none =>
    rw [hv] at ek
    exact wpAny_pyNext_enum_end hh he hit l1 (none_ge hv r.len) fun h' hs=>q.fin ek h' t.s.toks fun a o n e=>hs a o (fun z=>e (z▸List.mem_cons_of_mem _ (List.mem_cons_self ..))) n
  | some v =>
    rw [hv] at ek
    refine r.get hv fun y y1 y2=>wpAny_pyNext_enum_item he hit l1 (x:=y) (by rw [List.getElem?_toArray];exact y1) hne fun h₁ he₁ hit₁ ht₁ hsz hk=>wpAny_letOwnedTupleGo_enum he₁ fun h₂ he₂ hs₂=>?_
    have k:∀ a o,t.h.get? a=some o→¬ a∈[e,it]→h₂.get? a=some o:=fun a o g n=>hs₂.extBut a o (fun z=>n (z▸List.mem_cons_self ..)) (hk a o (fun z=>n (z▸List.mem_cons_self ..)) (fun z=>n (z▸List.mem_cons_of_mem _ (List.mem_cons_self ..))) g)
    have hit₂:=hit₁.extBut hs₂.extBut (Ne.symm hne)
    have st:=t.owns (h':=h₂) k (fun a o=>X.fix off a o) (fun a o m _=>allc (P:=fun a=>∃ o',h₂.get? a=some o') ⟨_,he₂⟩ (all1 (hit₂.imp fun _ e=>e.1)) a m) (t.s.toks+1)
    exact q.item _ _ _ ek st rfl (.tup (us:=[.int p t.s.toks,y]) (hs₂.extBut _ _ (Nat.ne_of_gt (Heap.lt_size he)) ht₁) (t.sim.free (new_none _)) (.cons (.int _ _) (.cons (y2.later st.later) .nil))) (.enum ⟨hl,he₂,hit₂,hne⟩)
theorem zip_end_first {w:World}{s:Shared}{z TI TO i1 i2 l1 l2:Addr}{k1:Nat}{xs:Array Value}{Q:Option Value→Shared→Prop} (hh:A.handled=none) (D:ZipApart z TI TO i1 i2 l1 l2) (hz:IsZip s.heap z TI TO .none) (hTI:IsPair s.heap TI (.ref i1) (.ref i2))
    (h1:s.heap.IsListIter i1 l1 k1) (hl1:s.heap.IsList l1 xs) (hx:xs[k1]?=none) (hQ:∀ h',(∀ c o,s.heap.get? c=some o→c≠z→c≠i1→h'.get? c=some o)→Q none { s with heap:=h' }):wpAny (model pw w) A (pyNext (.ref z)) Q E₀ s:=by
  have hT:s.TypeIs (.ref z) "zip":=⟨_,hz,rfl⟩
  unfold pyNext
  refine wpAny_bind (wpAny_attempt (wpAny_callSpecial?_slot (name:=PySem.Str.ofString "__next__") hT F.slot_zip_next (wpAny_call_entry F.slot_zip_next hT F.entry_zip_next ?_ (F.args_zip_next_1 _))))
  refine wpAny_bind (m:=field (.ref z) 2) (wpAny_field hz rfl (x:=.bool false) rfl (wpAny_bind (m:=field (.ref z) 3) (wpAny_field hz rfl (x:=.ref TI) rfl (wpAny_bind (wpAny_seqItems hTI rfl (wpAny_bind (m:=Builtin.SmallTypes.ownedTupleIsFree (.ref z)) ?_))))))
  unfold Builtin.SmallTypes.ownedTupleIsFree
  refine wpAny_bind (wpAny_field hz rfl (x:=.none) rfl (wpAny_pure (bm_if_true rfl (wpAny_bind (wpAny_rule (wpAny_bind (wpAny_field hz rfl (x:=.ref TO) rfl (wpAny_bind (wpAny_setField_rec hz (by simp) fun h₁ hz₁ hs₁=>wpAny_bind ?_)))))))))
  replace hz₁:IsZip h₁ z TI TO .ellipsis:=hz₁
  refine wpAny_bind (wpAny_bind (wpAny_onRaise (wpAny_bind (m:=Builtin.SmallTypes.nextOf (.ref i1)) (wpAny_nextOf_list_end hh (h1.extBut hs₁.extBut D.i1z) (hl1.extBut hs₁.extBut D.l1z) hx fun h₂ e hs₂ he=>?_))))
  obtain ⟨oe,hoe,hce⟩:=he
  have hz₂:IsZip h₂ z TI TO .ellipsis:=hs₂ _ _ D.i1z.symm hz₁
  have hez:e≠z:=fun x=>by subst x;rw [hz₂] at hoe;cases hoe;exact absurd hce (by simp)
  exact wpAny_setField_rec hz₂ (by simp) fun h₃ _ hs₃=>wpAny_bind (wpAny_isInstance (T:="StopIteration") (b:=true) ⟨oe,hs₃.extBut _ _ hez hoe,hce⟩ isSubtype_stop (wpAny_pure (hQ _ fun c o x c1 c3=>hs₃.extBut _ _ c1 (hs₂ _ _ c3 (hs₁.extBut _ _ c1 x)))))
theorem St.mixSim (t:St G) {h':Heap} (k:∀ a o,t.h.get? a=some o→¬ own a→a∉t.ρ→h'.get? a=some o) (ho:∀ a o,own a→t.h.get? a=some o→¬ Fix G a o)
    (objs:Later G t.ρ t.h t.ρ h'→∀ (i:Nat) o a,t.H[i]?=some o→t.ρ[i]?=some a→ObjR G t.ρ h' o a):Later G t.ρ t.h t.ρ h'∧Sim G t.ρ t.H h' :=
  have S:=t.sim
  have L:Later G t.ρ t.h t.ρ h':=⟨fun _ _ e=>e,fun a o e f n=>⟨k a o e (fun q=>ho a o q e f) n,n⟩⟩
  ⟨L,S.len,S.nodup,objs L,fun a o e n=>have e':=S.base a o e n;k a o e' (fun q=>ho a o q e' (.inr e)) fun m=>n (S.off m e),S.apart,S.tab⟩
theorem mix_step {h':Heap} (k:∀ a o,t.h.get? a=some o→¬ own a→a∉t.ρ→h'.get? a=some o) (z:Later G t.ρ t.h t.ρ h'∧Sim G t.ρ t.H h') (al:∀ a,own a→∃ o',h'.get? a=some o') (tk:Nat) :
    Step own t ⟨t.ρ,t.H,{ t.s with heap:=h',toks:=tk },z.2⟩ :=
  ⟨z.1,fun _ m=>.inl m,fun a o e n q=>k a o e q n,fun a o e=>by
    by_cases m:a∈t.ρ
    · exact z.2.live m
    · by_cases q:own a
      · exact al a q
      · exact ⟨o,k a o e q m⟩,rfl⟩
theorem next_zip {i j k:Nat}{z i1 i2:Addr} (x:ZipIt t.ρ t.h i j k p z i1 i2):NextOk t (.zip i j k) p z [z,i1,i2]:=by
  intro A E₀ target N K Qn Qs hh ht off ek q
  apply tup_elim (e:=target) ht;intro elts x1 tpos
  have X:ItAt G t.ρ t.h (.zip i j k) p z [z,i1,i2]:=.zip x
  obtain ⟨h1,h2,hk,hz,hTI,nTI,hi1,hi2,D⟩:=x
  refine St.lst h1 ek fun us n vs ek g1 r1=>St.lst h2 ek fun zs m ws ek g2 r2=>?_
  have l1:=lstObj_is g1
  have m1:z∈[z,i1,i2]:=List.mem_cons_self ..
  have m2:i1∈[z,i1,i2]:=List.mem_cons_of_mem _ (List.mem_cons_self ..)
  have m3:i2∈[z,i1,i2]:=List.mem_cons_of_mem _ (List.mem_cons_of_mem _ (List.mem_cons_self ..))
  cases hv:vs[p]? with
  | none =>
    rw [hv] at ek
    exact zip_end_first hh D hz hTI hi1 l1 (none_ge hv r1.len) fun h' hs=>q.fin ek.2.2 h' t.s.toks fun a o e n=>hs a o e (fun q=>n (q▸m1)) fun q=>n (q▸m2)
  | some v =>
    have hp:p < ws.length:=ek.2.1▸(gS hv).1
    have hw:=List.getElem?_eq_getElem hp
    rw [hv,hw] at ek
    obtain ⟨a,b,hTO⟩:=t.sim.objs _ _ _ ek.1 hk
    refine r1.get hv fun y y1 y2=>r2.get hw fun u u1 u2=>wpAny_pyNext_zip_item D hz hTI hTO hi1 hi2 l1 (lstObj_is g2) (x:=y) (y:=u) (by rw [List.getElem?_toArray];exact y1) (by rw [List.getElem?_toArray];exact u1)
      fun h₁ hz₁ hTO₁ hi1₁ hi2₁ ht₁ hsz hkp=>wpAny_letOwnedTupleGo_zip hz₁ fun h₂ hz₂ hs₂=>?_
    have all:∀ c o,c≠z→c≠_→c≠i1→c≠i2→t.h.get? c=some o→h₂.get? c=some o:=fun c o c1 c2 c3 c4 e=>hs₂.extBut c o c1 (hkp c o c1 c2 c3 c4 e)
    have kk:∀ a o,t.h.get? a=some o→¬ a∈[z,i1,i2]→a∉t.ρ→h₂.get? a=some o:=fun a o e n m=>all a o (fun q=>n (q▸m1)) (fun q=>m (q▸List.mem_of_getElem? hk)) (fun q=>n (q▸m2)) (fun q=>n (q▸m3)) e
    have Z:=t.mixSim (own:=(·∈[z,i1,i2])) (h':=h₂) kk (fun a o m e=>(X.fix off a o m e).2) fun L n o a e1 e2=>by
      by_cases hn:n=k
      · subst hn
        obtain rfl:=Option.some.inj (ek.1.symm.trans e1)
        obtain rfl:=Option.some.inj (hk.symm.trans e2)
        exact ⟨_,_,hs₂.extBut _ _ D.TOz hTO₁⟩
      · have hm:=List.mem_of_getElem? e2
        exact (t.sim.objs n o a e1 e2).later L ((t.sim.live hm).elim fun ob hob=>(all a ob (fun q=>off.rho _ m1 (q▸hm)) (fun q=>hn (t.sim.idx e2 (q▸hk))) (fun q=>off.rho _ m2 (q▸hm)) (fun q=>off.rho _ m3 (q▸hm)) hob).trans hob.symm)
    have hi1₂:=hi1₁.extBut hs₂.extBut D.i1z
    have hi2₂:=hi2₁.extBut hs₂.extBut D.i2z
    have st:=mix_step kk Z (allc (P:=fun a=>∃ o',h₂.get? a=some o') ⟨_,hz₂⟩ (allc (hi1₂.imp fun _ e=>e.1) (all1 (hi2₂.imp fun _ e=>e.1)))) t.s.toks
    exact q.item _ _ _ ek.2.2 st rfl (.tup (us:=[y,u]) (hs₂.extBut _ _ (Nat.ne_of_gt (Heap.lt_size hz)) ht₁) (t.sim.free (new_none _)) (.cons (y2.later st.later) (.cons (u2.later st.later) .nil)))
      (.zip ⟨h1,h2,hk,hz₂,all _ _ D.TIz D.TITO D.TIi1 D.TIi2 hTI,nTI,hi1₂,hi2₂,D⟩)
theorem next_ok {it:Iter} (x:ItAt G t.ρ t.h it p I fp):NextOk t it p I fp :=
  ItAt.rec (motive:=fun it p I fp _=>NextOk t it p I fp) next_live next_tup next_strA next_strW next_bytes next_range next_enum next_zip x
end
section
variable {G:Ctx}{A:Around}{E₀:Value→Shared→Prop}{t t₁:St G}{fp:List Addr}{p:Nat}{I:Addr}
noncomputable def NewIt (B:Bool) (t:St G) (K:Iter→AH→Prop) (Q:Value→Shared→Prop):Prop :=
  ∀ I i t' fp,Step none' t t'→K i t'.H→(B=true→plainIt i=true)→ItAt G t'.ρ t'.h i 0 I fp→Off t' fp→(∀ a,a∈fp→t.h.get? a=none)→Q (.ref I) t'.s
theorem NewIt.after {B K Q} (st:Step none' t t₁) (q:NewIt B t K Q):NewIt B t₁ K Q:=fun I i t' fp st' e b x off f0=>q I i t' fp (st.trans st') e b x off fun a m=>st.dead (f0 a m)
theorem Sim.fresh {ρ H h} (S:Sim G ρ H h) {a:Addr} (e:h.get? a=none):a∉ρ∧G.h₀.get? a=none:=⟨S.free e,S.free0 e⟩
theorem off_of {t':St G} (f:∀ a,a∈fp→a∉t'.ρ∧G.h₀.get? a=none):Off t' fp:=⟨fun a m=>(f a m).1,fun a m=>(f a m).2⟩
theorem NewIt.push {B K Q}{i:Iter}{o:Obj} (q:NewIt B t K Q) (tk:Nat) (e:K i t.H) (b:B=true→plainIt i=true) (hx:Later G t.ρ t.h t.ρ (t.h.push o)→ItAt G t.ρ (t.h.push o) i 0 t.h.objs.size [t.h.objs.size]) :
    Q (.ref t.h.objs.size) { t.s with heap:=t.s.heap.push o,toks:=tk } :=
  have st:=t.grown (own:=none') (keep_push o) tk
  q _ i (t.grow (keep_push o) tk) _ st e b (hx st.later) (off_of (all1 (t.sim.fresh (new_none _)))) (all1 (new_none _))
theorem iterV_ok {x:V}{a:Value}{B:Bool}{K:Iter→AH→Prop}{Q:Value→Shared→Prop} (hx:RV t x a) (e:iterV x t.H fun i=>K i t.H) (q:NewIt B t K Q):wpAny (model pw G.w) A (pyIter a) Q E₀ t.s:=by
  refine e.elim (fun e=>?_) fun e=>e.elim (fun e=>?_) fun e=>e.elim (fun e=>?_) fun e=>?_
  · apply St.onList hx e;intro i a us n vs e ha g r
    exact wpAny_pyIter_list (lstObj_is g) (q.push t.s.toks e (fun _=>rfl) fun L=>.live ha ⟨_,Heap.get?_push_size _ rfl,rfl,rfl⟩)
  · apply hx.onTup e;intro vs a us n e g na r
    exact wpAny_pyIter_tuple (tupObj_is g) (q.push t.s.toks e (fun _=>rfl) fun L=>.tup ⟨(L.fix _ _ g (.inl rfl) na).1,na,L.all r,⟨_,Heap.get?_push_size _ rfl,rfl,rfl⟩⟩)
  · apply hx.onStr e;intro cs u e
    cases hc:(toStr cs).cps.all (· < 128)
    · exact wpAny_pyIter_wide hc (q.push t.s.toks e (fun _=>rfl) fun L=>.strW ⟨_,Heap.get?_push_size _ rfl,rfl,rfl⟩)
    · exact wpAny_pyIter_ascii hc (q.push t.s.toks e (fun _=>rfl) fun L=>.strA ⟨_,Heap.get?_push_size _ rfl,rfl,rfl⟩)
  · apply hx.onBytes e;intro b u e
    exact KBw.pyIter_bytes (q.push t.s.toks e (fun _=>rfl) fun L=>.bytes ⟨_,Heap.get?_push_size _ rfl,rfl,rfl⟩)
theorem ItAt.self {i:Iter}{Q:Value→Shared→Prop} (h:Q (.ref I) t.s) (x:ItAt G t.ρ t.h i p I fp):wpAny (model pw G.w) A (pyIter (.ref I)) Q E₀ t.s :=
  ItAt.rec (motive:=fun _ _ I _ _=>Q (.ref I) t.s→wpAny (model pw G.w) A (pyIter (.ref I)) Q E₀ t.s) (fun _ hit h=>wpAny_pyIter_listiter hit h) (fun x h=>x.rec fun _ _ _ hit=>wpAny_pyIter_tupleiter hit h) (fun hit h=>wpAny_pyIter_striter_ascii hit h)
    (fun hit h=>wpAny_pyIter_striter_wide hit h) (fun hit h=>KBw.pyIter_self hit h) (fun _ hit h=>wpAny_pyIter_rangeiter hit h) (fun x h=>x.rec fun _ he _ _=>wpAny_pyIter_enum he h) (fun x h=>x.rec fun _ _ _ hz _ _ _ _ _=>wpAny_pyIter_zip hz h) x h
end
section
variable {X:Cx}
variable (X) in
noncomputable def ItOk (u:It):Prop:=∀ (p:Pt) (x:Expr) (loc:Loc) (t:St X.G) (K:Iter→AH→Prop) (Q:Value→Shared→Prop),
  chkIt X.Kf p.c u x=true→On X p loc t→evIt X.O u loc t.H K→NewIt (itPlain u) t K Q→wpAny (model pw X.G.w) p.A (eval x p.env) (fun xv s₁=>wpAny (model pw X.G.w) p.A (pyIter xv) Q p.E s₁) p.E t.s
theorem fold_mk {env:Env}{v:Value}:∀ {k:Sp}{q:Pay k},k≠.oth→foldedSetIterable (k.mk q) env v=pure v
  | .name,_,_ | .const,_,_ | .bin,_,_ | .un,_,_ | .cmp,_,_ | .ife,_,_ | .attr,_,_ | .sub,_,_ | .slice,_,_ | .tup,_,_ | .lst,_,_ | .dct,_,_ | .bool,_,_ | .lc,_,_ | .call,_,_=>rfl
  | .oth,_,h=>absurd rfl h
theorem chkTwo_elim {K:Frag}{c:CkD}{v:Value}{r r':Expr→Bool}{e:Expr}{C:Expr→Prop} (h:chkTwo K c v r r' e=true)
    (f:∀ x np y z pos,c.glob K x v=true→known y=true→known z=true→r y=true→r' z=true→C (.Call (.Name x np) [y,z] [] pos)):C e :=
  call_elim h fun x np xs pos g=>two_elim (C:=fun xs=>C (.Call (.Name x np) xs [] pos)) g fun y z g=>and2 g fun g1 g=>and2 g fun g2 g=>and2 g fun g3 g=>and2 g fun g4 g5=>f x np y z pos g1 g2 g3 g4 g5
theorem chkIt_fold {K:Frag}{c:CkD}{u:It}{x:Expr} (h:chkIt K c u x=true) (env:Env) (v:Value):foldedSetIterable x env v=pure v:=by
  cases u with
  | ex a=>exact and2 h fun h _=>by rw [← sh_mk x];exact fold_mk (of_decide_eq_true h)
  | range a=>exact chkB_elim (C:=fun x=>foldedSetIterable x env v=pure v) h fun _ _ _ _ _ _ _=>rfl
  | enum a=>exact chkB_elim (C:=fun x=>foldedSetIterable x env v=pure v) h fun _ _ _ _ _ _ _=>rfl
  | zip a b=>exact chkTwo_elim (C:=fun x=>foldedSetIterable x env v=pure v) h fun _ _ _ _ _ _ _ _ _ _=>rfl
theorem it_ex {a:E} (ha:EOk X a):ItOk X (.ex a):=fun p x loc t K Q h o e q=>and2 h fun _ h=>ha p x loc t _ _ h o e fun t₁ u va st₁ e r₁=>iterV_ok r₁ e (q.after st₁)
theorem it_range {a:E} (ha:EOk X a):ItOk X (.range a):=fun p x loc t K Q h o e q=>callB_ok (.inr ⟨_,rfl⟩) ha h o e fun t₁ u va st₁ e r=>by
  apply r.onInt e;intro k u e
  have z:=range_facts e.1
  refine call_range_1 (wpAny_pyIter_range (IsRange.new ..) z.2.1 ?_)
  have st₂:=t₁.grown (own:=none') (keep_push { cls:=.type "range",data:=.fields #[.int 0 t₁.s.toks,.int k u,.int 1 (t₁.s.toks+1)] }) (t₁.s.toks+1+1)
  refine NewIt.push (t:=t₁.grow (keep_push { cls:=.type "range",data:=.fields #[.int 0 t₁.s.toks,.int k u,.int 1 (t₁.s.toks+1)] }) (t₁.s.toks+1+1)) (q.after (st₁.trans st₂)) (t₁.s.toks+1+1) e.2 (fun _=>rfl) fun L=>.range (p:=0) (n:=k) e.1.1 ?_
  rw [show k - ((0:Nat):Int)=Builtin.Range.rangeSize 0 k 1 by rw [z.1,Int.toNat_of_nonneg e.1.1];exact Int.sub_zero k]
  exact Heap.get?_push_size _ rfl
theorem ane {a b:Nat} (h:a≠b):@Ne Addr a b:=h
theorem it_enum {a:E} (ha:EOk X a):ItOk X (.enum a):=fun p x loc t K Q h o e q=>callB_ok (.inr ⟨_,rfl⟩) ha h o e fun t₁ u va st₁ e r=>by
  apply St.onList r e;intro i l us n vs e hl g _
  refine call_enumerate_list (lstObj_is g) fun h' he hit hsz hk=>wpAny_pyIter_enum he ?_
  have f0:∀ a,a∈[t₁.h.objs.size+1,t₁.h.objs.size]→t₁.h.get? a=none:=allc (new_none_at _ 1) (all1 (new_none _))
  exact q.after st₁ _ _ (t₁.grow hk t₁.s.toks) _ (t₁.grown hk t₁.s.toks) e (fun h=>nomatch h) (.enum ⟨hl,he,hit,ane (Nat.succ_ne_self _)⟩) (off_of fun a m=>t₁.sim.fresh (f0 a m)) f0
theorem apart_at {n l1 l2:Nat} (h1:l1 < n) (h2:l2 < n):ZipApart (n+4) (n+2) (n+3) n (n+1) l1 l2 :=
  have a:∀ {i j:Nat},i≠j→@Ne Addr (n+i) (n+j):=fun h q=>h (Nat.add_left_cancel q)
  have b:∀ {i l:Nat},l < n→@Ne Addr l (n+i):=fun h q=>Nat.lt_irrefl n (Nat.lt_of_le_of_lt (Nat.le_add_right n _) (show _ < n from q▸h))
  ⟨a (by decide),a (by decide),a (i:=0) (by decide),a (by decide),a (by decide),a (j:=0) (by decide),a (by decide),a (j:=0) (by decide),a (by decide),a (i:=0) (by decide),b h1,b h1,b (i:=0) h1,b h1,b h2,b h2,b (i:=0) h2,b h2⟩
theorem it_zip {a b:E} (ha:EOk X a) (hb:EOk X b):ItOk X (.zip a b):=by
  intro p x loc t K Q h o e q
  apply chkTwo_elim (h:chkTwo X.Kf p.c (.type "zip") (chkE X.Kf p.c a) (chkE X.Kf p.c b) x=true);intro f np x y pos g1 g2 g3 g4 g5
  refine PyProof.Rows.Call_Name rfl (glob_ok o g1 ?_)
  rw [star_cons g2,star_cons g3]
  refine PySem.callWith_type rfl (Calls.evalArgs_plain (Calls.spliced_cons (ha p x loc t _ _ g4 o e fun t₁ u va st₁ e r₁=>Calls.spliced_cons (hb p y loc t₁ _ _ g5 (o.step st₁) e fun t₂ v vb st₂ e r₂=>Calls.spliced_nil ?_))))
  apply (r₁.later st₂.later).onRef e;intro i l1 e g1
  apply r₂.onRef e;intro j l2 e g2
  refine St.lst g1 e fun us n vs e k1 _=>St.lst g2 e fun ws m zs e k2 _=>call_zip_2 (lstObj_is k1) (lstObj_is k2) fun h' hz hTI hTO hi1 hi2 hsz hk=>wpAny_pyIter_zip hz ?_
  have nn:=new_none_at t₂.h
  have st₃:=t₂.news (own:=none') (o:=.buf) hk (nn 3) (fun _=>⟨_,_,hTO⟩) t₂.s.toks
  have f0:∀ a,a∈[t₂.h.objs.size+4,t₂.h.objs.size,t₂.h.objs.size+1]→t₂.h.get? a=none:=allc (nn 4) (allc (nn 0) (all1 (nn 1)))
  have ap:∀ k,k≠3→t₂.h.objs.size+k∉t₂.ρ++[t₂.h.objs.size+3]:=fun k hk m=>(mA m).elim (t₂.sim.free (nn k)) fun m=>hk (Nat.add_left_cancel (mS m))
  exact q.after (st₁.trans st₂) _ _ (t₂.new (o:=.buf) hk (nn 3) (fun _=>⟨_,_,hTO⟩) t₂.s.toks) _ st₃ e (fun h=>nomatch h) (.zip ⟨st₃.later.ext _ _ g1,st₃.later.ext _ _ g2,ref_last t₂,hz,hTI,ap 2 (by decide),hi1,hi2,apart_at (Heap.lt_size k1) (Heap.lt_size k2)⟩)
    ⟨allc (ap 4 (by decide)) (allc (ap 0 (by decide)) (all1 (ap 1 (by decide)))),fun a m=>t₂.sim.free0 (f0 a m)⟩ f0
end
noncomputable def FnOk (G:Ctx) (O:Orc) (D:Nat):Prop:=∀ (f:Fn) (vs:List V) (xs:List Value) (A:Around) (t:St G) (K:V→AH→Prop) (R:Result→Shared→Prop),
  Room A D→RVs t vs xs→O.fn f vs t.H K→To RV t K (fun y s'=>R (.ok (.ret y)) s')→codeAny (model pw G.w) A (.call (.ref f.addr) ⟨xs,[]⟩) R t.s
noncomputable def CloOk (G:Ctx) (O:Orc) (D:Nat):Prop:=∀ (cells:List Nat) (vs:List V) (a:Addr) (fd:FuncData) (xs:List Value) (A:Around) (t:St G) (K:V→AH→Prop) (R:Result→Shared→Prop),
  Room A D→CloAt G t.ρ t.h cells a fd→RVs t vs xs→O.clo cells vs t.H K→To RV t K (fun y s'=>R (.ok (.ret y)) s')→codeAny (model pw G.w) A (.call (.ref a) ⟨xs,[]⟩) R t.s
section
variable {X:Cx}{D₀:Nat}{A:Around}{E₀:Value→Shared→Prop}{s:Shared}{w:World}
theorem evalArgs_any {f:Value}{args:List (Bool × Sem Value)}{Q:Args→Shared→Prop} (hp:args.any (·.1)=false) (h:wpAny (model pw w) A (spliced args) (fun vs s'=>Q ⟨vs,[]⟩ s') E₀ s) :
    wpAny (model pw w) A (evalArgs f true args []) Q E₀ s:=by
  cases args with
  | nil =>
    unfold evalArgs
    exact wpAny_bind (m:=spliced []) (wpAny_mono h (fun vs s' h'=>wpAny_holding (wpAny_bind (wpAny_pure (wpAny_bind (wpAny_pure (wpAny_pure h')))))) fun _ _ x=>x)
  | cons p rest =>
    obtain ⟨b,x⟩:=p
    cases b with
    | false=>exact Calls.evalArgs_plain h
    | true=>exact absurd hp.symm Bool.false_ne_true
theorem callWith_own {f:Value}{first:List Value}{pos:Pos}{args:List (Bool × Sem Value)}{Q:Value→Shared→Prop}{Kf:Frag} (hk:keepIn Kf f=true) (hp:args.any (·.1)=false)
    (h:wpAny (model pw w) A (spliced args) (fun vs s₁=>Kf.In s₁.heap∧wpAny (model pw w) A (call f (first++vs)) Q E₀ s₁) E₀ s):wpAny (model pw w) A (callWith pos f first args []) Q E₀ s :=
  callWith_of (by rw [hp];rfl) (keeps_K hk) (evalArgs_any hp h)
theorem FnOk.call {G:Ctx}{O:Orc}{D:Nat} (FO:FnOk G O D) {f:Fn}{vs:List V}{xs:List Value}{t:St G}{K:V→AH→Prop}{Q:Value→Shared→Prop} (R:Room A D) (r:RVs t vs xs) (e:O.fn f vs t.H K) (hq:To RV t K Q) :
    wpAny (model pw G.w) A (call (.ref f.addr) xs) Q E₀ t.s:=wpAny_call (FO f vs xs A t K _ R r e hq)
variable (hD:D₀+10≤X.D)
include hD
theorem On.room' {p:Pt}{loc:Loc}{t:St X.G} (o:On X p loc t):Room p.A (D₀+10):=o.room.le (Nat.le_trans hD (Nat.le_add_right _ _))
theorem On.room0 {p:Pt}{loc:Loc}{t:St X.G} (o:On X p loc t):Room p.A D₀:=(o.room' hD).le (Nat.le_add_right _ _)
variable (FO:FnOk X.G X.O D₀)
include FO
theorem ok_fn {f:Fn}{es:List E} (he:EsOk X es):EOk X (.fn f es):=by
  intro p x loc t K Q h o e hq
  apply call_elim (p:=fun x xs=>p.c.glob X.Kf x (.ref f.addr) && (Nat.blt f 54 && chkEs X.Kf p.c es xs)) h;intro x np xs pos g
  exact and2 g fun g1 g=>and2 g fun g2 g3=>PyProof.Rows.Call_ (glob_ok o g1 (callWith_own (X.facts.fn f g2) (chkEs_plain g3).1 (he p xs pos loc t _ _ g3 o e fun t₁ vs us st₁ e r=>⟨X.facts.here t₁,FO.call (o.room0 hD) r.1 e (hq.after st₁)⟩)))
theorem ok_new {k:Cls}{es:List E} (he:EsOk X es):EOk X (.new k es):=by
  intro p x loc t K Q h o e hq
  apply call_elim (p:=fun x xs=>p.c.glob X.Kf x (.ref k.addr) && chkEs X.Kf p.c es xs) h;intro x np xs pos g
  refine and2 g fun g1 g2=>PyProof.Rows.Call_ (glob_ok o g1 (callWith_own (X.facts.clsKeep k) (chkEs_plain g2).1 (he p xs pos loc t _ _ g2 o e fun t₁ vs us st₁ e r=>⟨X.facts.here t₁,wpAny_call ?_⟩)))
  have F:=X.facts.here t₁
  have C:=X.facts.cls k
  have hn:=new_none t₁.h
  have kp:∀ a o,t₁.h.get? a=some o→((t₁.h.push emptyDict).push (instObj k.addr t₁.h.objs.size)).get? a=some o:=fun a o q=>Heap.get?_push_of_some _ (Heap.get?_push_of_some _ q)
  have hd:((t₁.h.push emptyDict).push (instObj k.addr t₁.h.objs.size)).get? t₁.h.objs.size=some (dictOf [] 0):=Heap.get?_push_of_some _ (Heap.get?_push_size _ rfl)
  have hi:((t₁.h.push emptyDict).push (instObj k.addr t₁.h.objs.size)).get? (t₁.h.objs.size+1)=some (instObj k.addr t₁.h.objs.size):=by
    have:=Heap.get?_push_size (t₁.h.push emptyDict) (o:=instObj k.addr t₁.h.objs.size) rfl
    rwa [Heap.size_push] at this
  have hr:Later X.G t₁.ρ t₁.h (t₁.ρ++[t₁.h.objs.size]) ((t₁.h.push emptyDict).push (instObj k.addr t₁.h.objs.size))→ObjR X.G (t₁.ρ++[t₁.h.objs.size]) ((t₁.h.push emptyDict).push (instObj k.addr t₁.h.objs.size)) (.flds k []) t₁.h.objs.size:=fun _=>⟨[],0,hd,.nil,fun _ m=>nomatch m⟩
  have st₂:=t₁.news (own:=none') kp hn hr t₁.s.toks
  have ri:RV (t₁.new kp hn hr t₁.s.toks) (.inst k t₁.H.length) (.ref (t₁.h.objs.size+1)):=.inst hi (ref_last t₁) fun m=>(mA m).elim (t₁.sim.free (new_none_at _ 1)) fun m=>absurd (mS m) (Nat.succ_ne_self _)
  refine make_core (h:=t₁.s.heap) (g:=t₁.s.gens) (d:=t₁.s.drawn) (t:=t₁.s.toks) (os:=t₁.s.os) (makes_of F C.makes) (looks_findIn F C.init) (fun self=>bind_fn F self (eq_of_beq C.initFn)) (.inl (by simp)) (FO (initOf k) _ _ _ (t₁.new kp hn hr t₁.s.toks) _ _ ?_ (.cons ri (st₂.later.all r.1)) e fun t₃ r y st₃ e r₃=>?_)
  · have R:=o.room' hD
    refine ⟨R.handled,R.guards,Nat.lt_of_le_of_lt ?_ R.depth,Nat.lt_of_le_of_lt ?_ R.units⟩
    · show p.A.depth+1+D₀≤_
      omega
    · show p.A.units+1+D₀≤_
      omega
  · obtain ⟨rfl,e⟩:=e
    exact ⟨r₃.isNone,hq _ _ _ ((st₁.trans st₂).trans st₃) e (ri.later st₃.later)⟩
omit hD FO in
theorem meth_apart (c:Cls) (f:Fn) (hf:f∈methOf c) (g:Fd) (hg:g∈fieldsOf c) (u:Tok):(Value.str g.str u).isStr f.str=false :=
  (Bool.not_eq_true' _).mp (List.all_eq_true.mp (List.all_eq_true.mp (List.all_eq_true.mp (show (clsAll.all fun c=>(methOf c).all fun f=>(fieldsOf c).all fun g=>!((Value.str g.str 0).isStr f.str))=true by decide +kernel) c (clsAll_mem c)) f hf) g hg)
omit hD FO in
theorem FlR.misses {G:Ctx}{ρ h}{name:PySem.Str}{fs:List (Fd × V)}{es:List DictEntry} (q:FlR G ρ h fs es) (k:∀ p,p∈fs→∀ u,(Value.str p.1.str u).isStr name=false):es.find? (·.key.isStr name)=none:=by
  unfold FlR at q
  induction q with
  | nil=>rfl
  | cons r _ ih =>
    obtain ⟨⟨u,e⟩,_⟩:=r
    rw [List.find?_cons,e,k _ (List.mem_cons_self ..) u]
    exact ih fun p hp=>k p (List.mem_cons_of_mem _ hp)
omit hD FO in
theorem meth_lt (c:Cls) (f:Fn) (h:f∈methOf c):Nat.blt f 54=true:=List.all_eq_true.mp (by cases c<;>rfl:(methOf c).all (fun f=>Nat.blt f 54)=true) f h
theorem ok_me {o:E}{f:Fn}{es:List E} (ho:EOk X o) (he:EsOk X es):EOk X (.me o f es):=by
  intro p x loc t K Q h on e hq
  apply chkMeth_elim (h:chkMeth f.str (chkE X.Kf p.c o) (fun xs=>chkEs X.Kf p.c es xs && decide (es.length < 20)) x=true);intro x ap xs pos g2 g3 g4 g5
  refine and2 g4 fun g4 g6=>?_
  rw [arm_eval_Call,base_eq g3]
  refine wpAny_bind (ho p x loc t _ _ g2 on e fun t₁ u va st₁ e r₁=>wpAny_bind (wpAny_standAt ?_))
  have r:=r₁
  revert r
  apply St.onInst (Q:=fun c i fs=>(methOf c).contains f=true∧_) r₁ e;intro k i a d sl fs es' n e hd g q h3 I r
  have hm:f∈methOf k:=by simpa using e.1
  have hf:=meth_lt k f hm
  have hp:=chkEs_plain (env:=p.env) (pos:=pos) g4
  have F:=X.facts.here t₁
  have C:=X.facts.cls k
  have hs:shadowIn (some (dictOf es' n)) f.str=some false:=by
    show (lookIn f.str (dictOf es' n)).map _=_
    rw [lookIn_dict]
    have:getL f.str es'=some none:=by
      unfold getL
      rw [q.misses fun p hp u=>meth_apart k f hm p.1 (h3 p hp) u]
      simp [q.noRef]
    rw [this];rfl
  have hform:methodCallForm (xs.length+([]:List Keyword).length) (backTo pos (starEach xs p.env)) (backToKw pos (keywordEach [] p.env))=true:=by
    unfold methodCallForm
    have:(backTo pos (starEach xs p.env)).all (fun x=>!x.1)=true:=List.all_eq_true.mpr fun y hy=>by simpa using List.any_eq_false.mp hp.1 y hy
    rw [this,hp.2]
    have:=of_decide_eq_true g6
    simp [show backToKw pos (keywordEach [] p.env)=[] from rfl];omega
  have hpos:methodCallPos true x p.env ap pos=pure pos:=by unfold methodCallPos;simp [g5]
  unfold methodCall
  rw [hform]
  exact wpAny_bind (wpAny_holding (method_fn F I (plainGet_of C.get).1 (plainGet_of C.get).2 (C.meth f hm).1 (eq_of_beq (C.meth f hm).2) hs (wpAny_bind (wpAny_of_eq hpos (callWith_own (X.facts.fn f hf) hp.1
    (he p xs pos loc t₁ _ _ g4 (on.step st₁) e.2 fun t₂ vs us st₂ e r₂=>⟨X.facts.here t₂,FO.call (on.room0 hD) (.cons (r.later st₂.later) r₂.1) e (hq.after (st₁.trans st₂))⟩))))))
omit hD FO in
theorem callWith_fnv {a:Addr}{pos:Pos}{args:List (Bool × Sem Value)}{Q:Value→Shared→Prop} (hp:args.any (·.1)=false)
    (h:wpAny (model pw w) A (spliced args) (fun vs s₁=>(∃ o fd,s₁.heap.get? a=some o∧o.data = .func fd)∧wpAny (model pw w) A (call (.ref a) vs) Q E₀ s₁) E₀ s):wpAny (model pw w) A (callWith pos (.ref a) [] args []) Q E₀ s :=
  callWith_of (P:=fun h=>∃ o fd,h.get? a=some o∧o.data = .func fd) (by rw [hp];rfl) (fun h ⟨o,fd,ho,hd⟩=>⟨.frame,.inl rfl,by
    obtain ⟨c,d,dt,sl⟩:=o
    dsimp only at hd
    subst hd
    exact (Looks.ld (part:=none) ho).andThen .now⟩) (evalArgs_any hp h)
omit hD FO in
theorem VRel.onCall {G:Ctx}{ρ h}{v:V}{x:Value}{C:V→Value→Prop} (r:VRel G ρ h v x) (hc:isCall v=true) (f:∀ g:Fn,Nat.blt g 54=true→C (.fn g) (.ref g.addr)) (g:∀ cs a fd,CloAt G ρ h cs a fd→C (.clo cs) (.ref a)):C v x :=
  have no:∀ {v x},isCall v=false→isCall v=true→C v x:=fun a b=>absurd (a.symm.trans b) Bool.false_ne_true
  VRel.casesOn (motive_1:=fun v x _=>isCall v=true→C v x) r (no rfl) (fun _=>no rfl) (fun _ _=>no rfl) (fun _ _=>no rfl) (fun _ _=>no rfl) (fun _ _ _=>no rfl) (fun _ _ _ _=>no rfl) (fun _=>no rfl) (fun _ _ _=>no rfl) (fun f' h=>f f' h) (fun c _=>g _ _ _ c) hc
omit hD FO in
theorem isCall_cel {v:V} (h:isCall v=true):notCel v=true:=by
  cases v with
  | cel=>exact absurd h Bool.false_ne_true
  | _=>rfl
theorem ok_var (CO:CloOk X.G X.O D₀) {k:Nat}{es:List E} (he:EsOk X es):EOk X (.var k es):=by
  intro p x loc t K Q h o e hq
  apply call_elim (p:=fun x xs=>p.c.slot k x (· != .hid) && chkEs X.Kf p.c es xs) h;intro x np xs pos g
  refine and2 g fun g1 g2=>slot_elim g1 fun pk h1 h2 h3 h4=>optK.elim e fun u hl e=>optK.elim e fun v hv e=>?_
  refine PyProof.Rows.Call_ (wpAny_Name (load_ok (K:=fun v' H=>isCall v'=true∧evEs X.O es loc H fun vs H=>(∃ f,v' = .fn f∧X.O.fn f vs H K)∨(∃ cs,v' = .clo cs∧X.O.clo cs vs H K)) o.fr h1 (bne_iff_ne.mp h2) h4 (hv▸hl) (isCall_cel e.1) e fun t₁ v va st₁ e r₁=>?_) h3)
  have hp:=(chkEs_plain (env:=p.env) (pos:=pos) g2).1
  refine r₁.onCall (C:=fun v va=>(evEs X.O es loc t₁.H fun vs H=>(∃ f,v = .fn f∧X.O.fn f vs H K)∨(∃ cs,v = .clo cs∧X.O.clo cs vs H K))→wpAny _ _ (callWith _ va [] _ []) Q _ t₁.s) e.1
    (fun f hf ev=>callWith_own (X.facts.fn f hf) hp (he p xs pos loc t₁ _ _ g2 (o.step st₁) ev fun t₂ vs us st₂ e r₂=>⟨X.facts.here t₂,e.elim (fun e=>e.elim fun g e=>FO.call (o.room0 hD) r₂.1 (V.fn.inj e.1▸e.2) (hq.after (st₁.trans st₂))) fun e=>e.elim fun _ e=>nomatch e.1⟩))
    (fun cs a fd c ev=>callWith_fnv hp (he p xs pos loc t₁ _ _ g2 (o.step st₁) ev fun t₂ vs us st₂ e r₂=>⟨(c.later st₂.later).fn.elim fun o e=>⟨o,fd,e.1,e.2.2⟩,e.elim (fun e=>e.elim fun _ e=>nomatch e.1) fun e=>e.elim fun g e=>wpAny_call (CO cs vs a fd us p.A t₂ K _ (o.room0 hD) (c.later st₂.later) r₂.1 (V.clo.inj e.1▸e.2) (hq.after (st₁.trans st₂)))⟩)) e.2
end
section
variable {X:Cx}
theorem t_val {x:Expr}{env:Env} (h:asValue x=true):isTrue x env (eval x env)=(do let v ← eval x env;standAt x.pos;holding [v] (truthy v)):=by
  have go:∀ {k:Sp}{q:Pay k},k = .const∨k = .call∨k = .name→isTrue (k.mk q) env (eval (k.mk q) env)=(do let v ← eval (k.mk q) env;standAt (k.mk q).pos;holding [v] (truthy v)):=by
    rintro k q (rfl | rfl | rfl)<;>rfl
  rw [← sh_mk x]
  exact go ((bO h).imp of_decide_eq_true fun h=>(bO h).imp of_decide_eq_true of_decide_eq_true)
theorem t_e {a:E} (ha:EOk X a):TOk X (.e a):=by
  intro p x loc t K Q h o e hq
  refine and2 h fun h1 h2=>?_
  rw [t_val h1]
  refine wpAny_bind (ha p x loc t _ _ h2 o e fun t₁ u va st₁ e r₁=>wpAny_bind (wpAny_standAt (wpAny_holding ?_)))
  apply r₁.onBool e;intro b e
  exact wpAny_truthy_bool (hq _ _ _ st₁ e rfl)
theorem t_not {u:T} (hu:TOk X u):TOk X (.not u):=by
  intro p x loc t K Q h o e hq
  apply on_elim h;intro q g
  exact and2 g fun g1 g2=>dec_elim (C:=fun o=>wpAny _ _ (isTrue (.UnaryOp o q.2.1 q.2.2) _ (eval (.UnaryOp o q.2.1 q.2.2) _)) _ _ _) g1 (wpAny_isTrue_Not (hu p _ loc t _ _ g2 o e fun t₁ r r' st₁ e hr=>hr▸hq _ _ _ st₁ e rfl))
theorem t_and {u v:T} (hu:TOk X u) (hv:TOk X v):TOk X (.and u v):=by
  intro p x loc t K Q h o e hq
  apply on_elim h;intro q g
  refine and2 g fun g1 g=>dec_elim (C:=fun o=>wpAny _ _ (isTrue (.BoolOp o q.2.1 q.2.2) _ (eval (.BoolOp o q.2.1 q.2.2) _)) _ _ _) g1 (two_elim (C:=fun xs=>wpAny _ _ (isTrue (.BoolOp .And xs q.2.2) _ (eval (.BoolOp .And xs q.2.2) _)) _ _ _) g fun y z g=>and2 g fun g1 g2=>?_)
  refine wpAny_isTrue_BoolOp (wpAny_allTrue_And_cons (hu p y loc t _ _ g1 o e fun t₁ r r' st₁ e hr=>?_))
  obtain rfl:r=r':=hr
  cases r with
  | false=>exact hq _ _ _ st₁ e rfl
  | true =>
    refine wpAny_allTrue_And_cons (hv p z loc t₁ _ _ g2 (o.step st₁) e fun t₂ r r' st₂ e hr=>?_)
    obtain rfl:r=r':=hr
    cases r with
    | false=>exact hq _ _ _ (st₁.trans st₂) e rfl
    | true=>exact wpAny_allTrue_And_nil (hq _ _ _ (st₁.trans st₂) e rfl)
theorem t_or {u v:T} (hu:TOk X u) (hv:TOk X v):TOk X (.or u v):=by
  intro p x loc t K Q h o e hq
  apply on_elim h;intro q g
  refine and2 g fun g1 g=>dec_elim (C:=fun o=>wpAny _ _ (isTrue (.BoolOp o q.2.1 q.2.2) _ (eval (.BoolOp o q.2.1 q.2.2) _)) _ _ _) g1 (two_elim (C:=fun xs=>wpAny _ _ (isTrue (.BoolOp .Or xs q.2.2) _ (eval (.BoolOp .Or xs q.2.2) _)) _ _ _) g fun y z g=>and2 g fun g1 g2=>?_)
  refine wpAny_isTrue_BoolOp (wpAny_allTrue_Or_cons (hu p y loc t _ _ g1 o e fun t₁ r r' st₁ e hr=>?_))
  obtain rfl:r=r':=hr
  cases r with
  | true=>exact hq _ _ _ st₁ e rfl
  | false =>
    refine wpAny_allTrue_Or_cons (hv p z loc t₁ _ _ g2 (o.step st₁) e fun t₂ r r' st₂ e hr=>?_)
    obtain rfl:r=r':=hr
    cases r with
    | true=>exact hq _ _ _ (st₁.trans st₂) e rfl
    | false=>exact wpAny_allTrue_Or_nil (hq _ _ _ (st₁.trans st₂) e rfl)
theorem t_cmp {c:Cm}{a b:E} (ha:EOk X a) (hb:EOk X b):TOk X (.cmp c a b):=by
  intro p x loc t K Q h o e hq
  apply chkCmp_elim (a:=a) (b:=b) (o:=c) h;intro l r pos g2 g3 g4
  exact wpAny_isTrue_Compare1 (ha p l loc t _ _ g2 o e fun t₁ x va st₁ e r₁=>hb p r loc t₁ _ _ g3 (o.step st₁) e fun t₂ y vb st₂ e r₂=>cmp_ok (K:=fun v H=>v.onBool fun b=>K b H) o.room (r₁.later st₂.later) r₂ e fun t₃ v vc st₃ e r₃=>by
    apply r₃.onBool e;intro b e
    exact wpAny_truthy_bool (hq _ _ _ ((st₁.trans st₂).trans st₃) e rfl)) g4
end
mutual
noncomputable def chkTg (K:Frag) (c:CkD):Tg→Expr→Bool
  | .v k,e=>on .name e fun q=>c.slot k q.1 fun p=>p == .loc || p == .cel
  | .vc k,e=>on .name e fun q=>c.slot k q.1 (· == .cel)
  | .tup ts,e=>on .tup e fun q=>chkTgs K c ts q.1
  | .at o f,e=>on .attr e fun q=>(q.2.1 == f.str) && chkE K c o q.1
  | .sb o i,e=>on .sub e fun q=>chkE K c o q.1 && (chkE K c i q.2.1 && notSlice q.2.1)
termination_by structural t=>t
noncomputable def chkTgs (K:Frag) (c:CkD):List Tg→List Expr→Bool
  | [],xs=>xs.isEmpty
  | t :: r,xs=>(match xs with | x :: xs=>chkTg K c t x && (known x && chkTgs K c r xs) | []=>false)
termination_by structural ts=>ts
end
section
variable (X:Cx)
noncomputable def TgOk (u:Tg):Prop:=∀ (p:Pt) (x:Expr) (loc:Loc) (t:St X.G) (v:V) (va:Value) (K:Loc→AH→Prop) (Q:Unit→Shared→Prop),
  chkTg X.Kf p.c u x=true→On X p loc t→RV t v va→asg X.O u v loc t.H K→ToL (Own p.env) p.env p.c.sl t K Q→wpAny (model pw X.G.w) p.A (assign x p.env va) Q p.E t.s
noncomputable def TgsOk (ts:List Tg):Prop:=∀ (p:Pt) (xs:List Expr) (loc:Loc) (t:St X.G) (vs:List V) (us:List Value) (K:Loc→AH→Prop) (Q:Unit→Shared→Prop),
  chkTgs X.Kf p.c ts xs=true→On X p loc t→RVs t vs us→ts.length=vs.length→asgs X.O ts vs loc t.H K→ToL (Own p.env) p.env p.c.sl t K Q→wpAny (model pw X.G.w) p.A (assignInOrder ((assignEach xs p.env).map (·.2)) us) Q p.E t.s
end
section
variable {X:Cx}
theorem On.set {p:Pt}{loc loc':Loc}{t t':St X.G} (o:On X p loc t) (F:FR p.env p.c.sl loc' t'):On X p loc' t':=⟨o.names,o.room,F⟩
theorem tg_v (k:Nat):TgOk X (.v k):=by
  intro p x loc t v va K Q h o r e hq
  have h:Mine.on .name x (fun q=>p.c.slot k q.1 fun p=>p == .loc || p == .cel)=true:=h
  apply on_elim h;intro q g
  refine slot_elim g fun pk h1 h2 _ _=>optK.elim e fun u hu e=>wpAny_assign_Name ?_
  refine (bO h2).elim (fun h=>?_) fun h=>?_
  · rw [eq_of_beq h] at h1
    exact store_local o.fr h1 r e.2 (hq.mono fun a h=>.inl h)
  · rw [eq_of_beq h] at h1
    exact store_cell o.fr h1 hu e.1 r e.2 (hq.mono fun a h=>.inr ⟨_,h⟩)
theorem tg_vc (k:Nat):TgOk X (.vc k):=by
  intro p x loc t v va K Q h o r e hq
  have h:Mine.on .name x (fun q=>p.c.slot k q.1 (· == .cel))=true:=h
  apply on_elim h;intro q g
  refine slot_elim g fun pk h1 h2 _ _=>optK.elim e fun u hl e=>optK.elim e fun w hv e=>onCel_elim (D:=fun v=>loc[k]?=some (some v)) (hv▸hl) e fun i hl e=>wpAny_assign_Name ?_
  rw [eq_of_beq h2] at h1
  exact store_celc o.fr h1 hl r e hq
theorem tg_at {o:E}{f:Fd} (ho:EOk X o):TgOk X (.at o f):=by
  intro p x loc t v va K Q h on e r hq
  have h:Mine.on .attr x (fun q=>(q.2.1 == f.str) && chkE X.Kf p.c o q.1)=true:=h
  apply on_elim h;intro q g
  refine and2 g fun g1 g2=>beq_elim (C:=fun n=>wpAny _ _ (assign (.Attribute q.1 n q.2.2) _ _) _ _ _) g1 ?_
  exact wpAny_bind (m:=holding [va] (eval q.1 p.env)) (wpAny_holding (ho p _ loc t _ _ g2 on r fun t₁ u vb st₁ e' r₁=>wpAny_bind (wpAny_standAt (wpAny_bind (wpAny_holding (setF_ok (K:=fun H=>K loc H) X.facts r₁ (e.later st₁.later) e' fun t₂ _ _ st₂ e₂ _ =>
    wpAny_release (hq _ _ (st₁.trans st₂).any e₂ (on.fr.step (st₁.trans st₂)))))))))
theorem tg_sb {o i:E} (ho:EOk X o) (hi:EOk X i):TgOk X (.sb o i):=by
  intro p x loc t v va K Q h on r e hq
  have h:Mine.on .sub x (fun q=>chkE X.Kf p.c o q.1 && (chkE X.Kf p.c i q.2.1 && notSlice q.2.1))=true:=h
  apply on_elim h;intro q g
  refine and2 g fun g1 g=>and2 g fun g2 _=>?_
  show wpAny _ _ (assign (.Subscript q.1 q.2.1 q.2.2) _ _) _ _ _
  rw [arm_assign_Subscript]
  exact wpAny_bind (wpAny_holding (ho p _ loc t _ _ g1 on e fun t₁ u vb st₁ e r₁=>wpAny_bind (wpAny_holding (hi p _ loc t₁ _ _ g2 (on.step st₁) e fun t₂ u vc st₂ e r₂=>wpAny_bind (wpAny_standAt (wpAny_bind (wpAny_holding
    (setI_ok (K:=fun H=>K loc H) (r₁.later st₂.later) r₂ (r.later (st₁.trans st₂).later) e fun t₃ _ _ st₃ e _=>wpAny_release (hq _ _ ((st₁.trans st₂).trans st₃).any e (on.fr.step ((st₁.trans st₂).trans st₃)))))))))))
theorem tgs_nil:TgsOk X []:=by
  intro p xs loc t vs us K Q h on r hl e hq
  obtain rfl:=List.eq_nil_of_length_eq_zero hl.symm
  refine r.none (C:=fun us=>wpAny _ _ (assignInOrder _ us) _ _ _) ?_
  have z:∀ l,assignInOrder l []=pure ():=fun l=>by cases l<;>rfl
  rw [z]
  exact wpAny_pure (hq _ _ .refl e on.fr)
theorem each_mk {env:Env}:∀ {k:Sp}{q:Pay k}{xs:List Expr},k≠.oth→assignEach (k.mk q :: xs) env=(false,assign (k.mk q) env) :: assignEach xs env
  | .name,_,_,_ | .const,_,_,_ | .bin,_,_,_ | .un,_,_,_ | .cmp,_,_,_ | .ife,_,_,_ | .attr,_,_,_ | .sub,_,_,_ | .slice,_,_,_ | .tup,_,_,_ | .lst,_,_,_ | .dct,_,_,_ | .bool,_,_,_ | .lc,_,_,_ | .call,_,_,_=>rfl
  | .oth,_,_,h=>absurd rfl h
theorem each_known {env:Env}{x:Expr}{xs:List Expr} (h:known x=true):assignEach (x :: xs) env=(false,assign x env) :: assignEach xs env:=by
  rw [← sh_mk x]
  exact each_mk (of_decide_eq_true h)
theorem tgs_cons {u:Tg}{ts:List Tg} (hu:TgOk X u) (hts:TgsOk X ts):TgsOk X (u :: ts):=by
  intro p xs loc t vs us K Q h on r hl e hq
  cases vs with
  | nil=>exact nomatch hl
  | cons v vs =>
    cases xs with
    | nil=>exact absurd h Bool.false_ne_true
    | cons x xs =>
      refine and2 h fun h1 h=>and2 h fun h2 h3=>r.head (C:=fun us=>wpAny _ _ (assignInOrder _ us) _ _ _) fun va us r1 r2=>?_
      rw [each_known h2]
      exact wpAny_bind (m:=holding us (assign x p.env va)) (wpAny_holding (hu p x loc t v va _ _ h1 on r1 e fun t₁ loc₁ st₁ e F₁=>hts p xs loc₁ t₁ vs us _ _ h3 (on.set F₁) (st₁.later.all r2) (Nat.succ.inj hl) e (hq.after st₁)))
theorem chkTgs_shape {K:Frag}{c:CkD}{env:Env}{ts:List Tg}:∀ {xs:List Expr},chkTgs K c ts xs=true→(assignEach xs env).length=ts.length∧(assignEach xs env).findIdx? (·.1)=none:=by
  induction ts with
  | nil=>exact fun h=>empty_elim (C:=fun xs=>(assignEach xs env).length=0∧(assignEach xs env).findIdx? (·.1)=none) h ⟨rfl,rfl⟩
  | cons u ts ih =>
    intro xs h
    cases xs with
    | nil=>exact absurd h Bool.false_ne_true
    | cons x xs =>
      refine and2 h fun h1 h=>and2 h fun h2 h3=>?_
      rw [each_known h2,List.findIdx?_cons,(ih h3).2]
      exact ⟨congrArg (·+1) (ih h3).1,rfl⟩
theorem tg_tup {ts:List Tg} (hts:TgsOk X ts):TgOk X (.tup ts):=by
  intro p x loc t v va K Q h on r e hq
  have h:Mine.on .tup x (fun q=>chkTgs X.Kf p.c ts q.1)=true:=h
  apply on_elim h;intro q g
  apply r.onTup e;intro vs a us n e gt _ r1
  have z:=chkTgs_shape (env:=p.env) g
  refine wpAny_assign_Tuple on.room.handled (tupObj_is gt) (by rw [z.1,e.1,r1.len,List.size_toArray]) z.2 fun h' hb=>?_
  have kp:∀ a o,t.h.get? a=some o→h'.get? a=some o:=fun a o q=>hb a o (fun z=>nomatch (new_none t.h).symm.trans (show t.h.get? _=some o from z▸q)) q
  have st:=t.grown (own:=none') kp t.s.toks
  exact hts p _ loc (t.grow kp t.s.toks) vs us _ _ g (on.step st) (st.later.all r1) e.1 e.2 (hq.after st.any)
end
theorem lookup_ne {α:Type}{n m:PySem.Str}{a:α}{l:List (PySem.Str × α)} (h:n≠m):List.lookup n ((m,a) :: l)=List.lookup n l:=by
  rw [List.lookup_cons,show (n == m)=false from beq_eq_false_iff_ne.mpr h]
theorem lookup_eq {α:Type}{n:PySem.Str}{a:α}{l:List (PySem.Str × α)}:List.lookup n ((n,a) :: l)=some a:=by
  rw [List.lookup_cons,beq_self_eq_true]
theorem mem_lookup {α:Type}{l:List (PySem.Str × α)}{n:PySem.Str}{k:α} (nd:(l.map (·.1)).Nodup) (hm:(n,k)∈l):l.lookup n=some k:=by
  induction l with
  | nil=>exact nomatch hm
  | cons p r ih =>
    obtain ⟨m,j⟩:=p
    rw [List.map_cons,List.nodup_cons] at nd
    refine (mZ hm).elim (fun e=>e▸lookup_eq) fun hm=>?_
    rw [lookup_ne fun q:n=m=>nd.1 (List.mem_map.mpr ⟨(n,k),hm,q⟩)]
    exact ih nd.2 hm
theorem cellsFrom_spec (names:List (PySem.Str × NameKind)):∀ (h:Heap) (acc:List (PySem.Str × Addr)),(acc.Pairwise fun x y=>x.2≠y.2)→(∀ x∈acc,@LT.lt Nat _ x.2 h.objs.size) →
    ((cellsFrom h.objs.size names acc).Pairwise fun x y=>x.2≠y.2)∧(∀ x∈cellsFrom h.objs.size names acc,x∈acc∨@LE.le Nat _ h.objs.size x.2) ∧
    (∀ n,(n,NameKind.cell)∉names→(cellsFrom h.objs.size names acc).lookup n=acc.lookup n) ∧
    (∀ n,(n,NameKind.cell)∈names→∃ a,(cellsFrom h.objs.size names acc).lookup n=some a∧@LE.le Nat _ h.objs.size a∧(pushCells h names).IsCell a none):=by
  induction names with
  | nil=>exact fun h acc hp hl=>⟨hp,fun x m=>.inl m,fun _ _=>rfl,fun n m=>nomatch m⟩
  | cons p r ih =>
    intro h acc hp hl
    obtain ⟨n0,k0⟩:=p
    unfold cellsFrom pushCells
    by_cases hk:(k0 == NameKind.cell)=true
    · rw [if_pos hk,if_pos hk]
      obtain rfl:k0 = .cell:=eq_of_beq hk
      have hs:(h.push { cls:=.type "cell",data:=.cell none }).objs.size=h.objs.size+1:=Heap.size_push ..
      have IH:=ih (h.push { cls:=.type "cell",data:=.cell none }) ((n0,h.objs.size) :: acc) (.cons (fun y hy e=>Nat.lt_irrefl y.2 ((show h.objs.size=y.2 from e)▸hl y hy)) hp)
        (fun x m=>by rw [hs];exact (mZ m).elim (fun q=>q▸Nat.lt_succ_self _) fun m=>Nat.lt_succ_of_lt (hl x m))
      rw [hs] at IH
      refine ⟨IH.1,fun x m=>(IH.2.1 x m).elim (fun m=>(mZ m).elim (fun q=>.inr (q▸Nat.le_refl _)) .inl) fun m=>.inr (Nat.le_of_succ_le m),fun n hn=>?_,fun n hn=>?_⟩
      · rw [IH.2.2.1 n fun m=>hn (List.mem_cons_of_mem _ m),lookup_ne fun q:n=n0=>hn (by rw [q];exact List.mem_cons_self ..)]
      · by_cases hm:(n,NameKind.cell)∈r
        · exact (IH.2.2.2 n hm).imp fun a q=>⟨q.1,Nat.le_of_succ_le q.2.1,q.2.2⟩
        · obtain rfl:n=n0:=(mZ hn).elim (fun e=>(Prod.mk.inj e).1) fun m=>absurd m hm
          exact ⟨h.objs.size,(IH.2.2.1 n hm).trans lookup_eq,Nat.le_refl _,_,pushCells_keeps r _ _ _ (Heap.get?_push_size _ rfl),rfl⟩
    · rw [if_neg hk,if_neg hk]
      have IH:=ih h acc hp hl
      exact ⟨IH.1,IH.2.1,fun n hn=>IH.2.2.1 n fun m=>hn (List.mem_cons_of_mem _ m),fun n hn=>IH.2.2.2 n ((mZ hn).resolve_left fun e=>hk (by rw [← (Prod.mk.inj e).2];rfl))⟩
noncomputable def freeCells (env:Env) (names:List (PySem.Str × NameKind)):List (PySem.Str × Addr):=((names.filter fun p=>p.2 == .free).map fun p=>(p.1,(env.cells.lookup p.1).getD 0)).reverse
theorem closureFor_run {scope:Scope}{env:Env} (h:∀ n,(n,NameKind.free)∈scope.names→∃ c,env.cells.lookup n=some c):closureFor scope env=pure (freeCells env scope.names):=by
  have run:∀ (f:PySem.Str × NameKind→List (PySem.Str × Addr)→Sem (ForInStep (List (PySem.Str × Addr)))),(∀ n k cs,f (n,k) cs=if k == .free then (do let c ← cellOf env n;pure (.yield ((n,c) :: cs))) else pure (.yield cs)) →
      ∀ (names:List (PySem.Str × NameKind)) (acc:List (PySem.Str × Addr)),(∀ n,(n,NameKind.free)∈names→∃ c,env.cells.lookup n=some c)→forIn names acc f=pure (freeCells env names++acc):=by
    intro f hf names
    induction names with
    | nil=>exact fun acc _=>List.forIn_nil
    | cons p r ih =>
      intro acc h
      obtain ⟨n,k⟩:=p
      have ih:=fun acc=>ih acc fun n m=>h n (List.mem_cons_of_mem _ m)
      unfold freeCells at ih ⊢
      rw [List.forIn_cons,hf,List.filter_cons]
      by_cases hk:(k == NameKind.free)=true
      · obtain rfl:k = .free:=eq_of_beq hk
        obtain ⟨c,hc⟩:=h n (List.mem_cons_self ..)
        rw [if_pos hk,if_pos hk,show cellOf env n=pure c by unfold cellOf;rw [hc],List.map_cons,hc,List.reverse_cons,List.append_assoc]
        exact ih ((n,c) :: acc)
      · rw [if_neg hk,if_neg hk]
        exact ih acc
  simp only [closureFor]
  rw [run _ (fun n k cs=>by cases hk:k == NameKind.free<;>simp) scope.names [] h,List.append_nil]
  rfl
theorem freeCells_spec {env:Env}{names:List (PySem.Str × NameKind)} (h:∀ n,(n,NameKind.free)∈names→∃ c,env.cells.lookup n=some c) (nd:(names.map (·.1)).Nodup) :
    (∀ n,(n,NameKind.free)∈names→(freeCells env names).lookup n=env.cells.lookup n)∧(∀ x∈freeCells env names,(x.1,NameKind.free)∈names∧env.cells.lookup x.1=some x.2)∧((freeCells env names).map (·.1)).Nodup:=by
  have key:(freeCells env names).map (·.1)=((names.filter fun p=>p.2 == .free).map (·.1)).reverse:=by unfold freeCells;rw [List.map_reverse,List.map_map];rfl
  have nd':((freeCells env names).map (·.1)).Nodup:=by rw [key];exact (List.reverse_perm _).nodup_iff.mpr (nd.sublist (List.filter_sublist.map _))
  refine ⟨fun n m=>(h n m).elim fun c hc=>?_,fun x m=>?_,nd'⟩
  · rw [hc]
    exact mem_lookup nd' (List.mem_reverse.mpr (List.mem_map.mpr ⟨_,List.mem_filter.mpr ⟨m,rfl⟩,by rw [hc];rfl⟩))
  · obtain ⟨⟨n,k⟩,hm,rfl⟩:=List.mem_map.mp (List.mem_reverse.mp m)
    have hm:=List.mem_filter.mp hm
    obtain rfl:k = .free:=eq_of_beq hm.2
    refine ⟨hm.1,(h n hm.1).elim fun c hc=>?_⟩
    rw [hc];rfl
theorem newEnv_comp {M:Model}{A:Around}{E:Value→Shared→Prop}{s:Shared}{sc:Scope}{cl:List (PySem.Str × Addr)}{env:Env}{Q:Env→Shared→Prop}
    (h:Q { scope:=sc,locals:=s.heap.objs.size,globals:=env.globals,cells:=cellsFrom (s.heap.objs.size+1) sc.names cl,qual:=env.qual,func:=none,code:=env.code,frame:=env.frame,builtins:=env.builtins }
      { s with heap:=pushCells (s.heap.push { cls:=.type "dict",data:=.dict #[] }) sc.names }) :
    wpAny M A (newFunctionEnv sc env.globals cl [] env.qual none .none (some env)) Q E s:=by
  simp only [newFunctionEnv,Option.isSome_some,if_true]
  refine wpAny_bind (wpAny_alloc (wpAny_bind (wpAny_layCells _ (fun name kind cells=>by cases hkc:kind == NameKind.cell<;>simp) _ _ _ _ ?_)))
  rw [show ({ s with heap:=s.heap.push { cls:=.type "dict",data:=.dict #[] } }:Shared).heap.objs.size=s.heap.objs.size+1 from Heap.size_push ..]
  simp only [List.forIn_nil]
  exact wpAny_bind (wpAny_pure (wpAny_pure h))
section
variable {G:Ctx}{t t':St G}{env:Env}{sl:Sl}{loc:Loc}{own:Addr→Prop}
theorem FR.step' (st:Step own t t') (hl:¬ own env.locals) (hc:∀ n c,env.cells.lookup n=some c→¬ own c) (F:FR env sl loc t):FR env sl loc t' :=
  F.but st.later fun a o e n w=>⟨st.keep a o e n fun q=>w.elim (fun z=>hl (z▸q)) fun z=>z.elim fun _ z=>hc _ _ z q,st.alone n e⟩
end
theorem lookup_relab (outer names:List (PySem.Str × NameKind)) (n:PySem.Str):(relab outer names).lookup n=(names.lookup n).map fun k=>if k == .free && outer.lookup n == some .cell then .cell else k:=by
  unfold relab
  induction names with
  | nil=>rfl
  | cons p r ih =>
    obtain ⟨m,k⟩:=p
    rw [List.map_cons]
    by_cases e:n=m
    · rw [e,lookup_eq,lookup_eq];rfl
    · rw [lookup_ne e,lookup_ne e];exact ih
theorem relabel_names {sc:Scope}{env:Env}{names:List (PySem.Str × NameKind)} (hk:env.scope.kind = .function) (hn:env.scope.names=names):(relabel sc env).names=relab names sc.names:=by
  unfold relabel relab
  simp only [Env.kindOf,hk,hn]
  congr 1
  funext x
  obtain ⟨n,k⟩:=x
  cases hq:(k == NameKind.free && names.lookup n == some .cell)<;>simp [hq]
structure CompOk (sl:Sl) (names:List (PySem.Str × NameKind)) (own:List PySem.Str):Prop where
  kinds:∀ n,n∈own→names.lookup n=some .local∨names.lookup n=some .cell
  own:own.Nodup
  uniq:(names.map (·.1)).Nodup
  free:∀ n,(n,NameKind.free)∈names→∃ pk,(n,pk)∈sl∧(pk = .cel∨pk = .free)
theorem compOk_of {sl:Sl}{names own} (h:compOk sl names own=true):CompOk sl names own :=
  and2 h fun h1 h=>and2 h fun h2 h=>and2 h fun h3 h4=>⟨fun n m=>(bO (List.all_eq_true.mp h1 n m)).imp eq_of_beq eq_of_beq,of_decide_eq_true h2,of_decide_eq_true h3,fun n m=>by
    obtain ⟨⟨n',pk⟩,hq,e⟩:=List.any_eq_true.mp ((bO (List.all_eq_true.mp h4 _ m)).resolve_left Bool.false_ne_true)
    exact and2 e fun e1 e2=>⟨pk,(show n'=n from eq_of_beq e1)▸hq,(bO e2).imp eq_of_beq eq_of_beq⟩⟩
theorem vis_append (a b:Sl):vis (a++b)=vis a++vis b:=by unfold vis;rw [List.filter_append,List.map_append]
noncomputable def hides (names:List (PySem.Str × NameKind)) (own:List PySem.Str) (p:PySem.Str × Pk):Bool:=own.contains p.1 || !(names.lookup p.1 == some .free) || !(p.2 == .cel || p.2 == .free)
theorem vis_inner {sl:Sl}{names own} (ok:CompOk sl names own) (nd:(vis sl).Nodup):(vis (inner names own sl)).Nodup:=by
  unfold inner
  rw [vis_append]
  have e1:vis (own.map fun n=>(n,if names.lookup n == some NameKind.cell then Pk.cel else .loc))=own:=by
    unfold vis
    rw [List.filter_eq_self.mpr (fun p hp=>by
      obtain ⟨n,_,rfl⟩:=List.mem_map.mp hp
      by_cases q:(names.lookup n == some NameKind.cell)=true<;>simp [q]),List.map_map]
    exact List.map_id _
  rw [e1]
  have e2:∀ l:Sl,vis (l.map fun p=>(p.1,if hides names own p then Pk.hid else p.2))=vis (l.filter fun p=>!hides names own p):=fun l=>by
    unfold vis
    induction l with
    | nil=>rfl
    | cons p r ih =>
      rw [List.map_cons,List.filter_cons,List.filter_cons]
      cases hides names own p with
      | true=>exact ih
      | false =>
        rw [if_neg Bool.false_ne_true,if_pos (show (!false)=true from rfl),List.filter_cons]
        split
        · rw [List.map_cons,ih];rfl
        · exact ih
  have e2:=e2 sl
  unfold hides at e2
  rw [e2]
  refine List.nodup_append.mpr ⟨ok.own,nd.sublist ((List.filter_sublist.filter _).map _),fun x hx y hy e=>?_⟩
  subst e
  obtain ⟨q,hq,rfl⟩:=List.mem_map.mp hy
  have:=(List.mem_filter.mp (List.mem_filter.mp hq).1).2
  rw [List.contains_iff_mem.mpr hx] at this
  exact absurd this Bool.false_ne_true
section
variable {G:Ctx}{A:Around}{E₀:Value→Shared→Prop}{t:St G}{env:Env}{loc:Loc}{c:CkD}{sc:Scope}{own:List PySem.Str}{Cl:Addr}{cells:List (PySem.Str × Addr)}
theorem fr_inner (ok:CompOk c.sl sc.names own) (hkind:sc.kind = .function) (hn:env.scope.names=c.names) (F:FR env c.sl loc t) (hC:t.h.Ns Cl fun _=>none) (nC:Cl∉t.ρ∧G.h₀.get? Cl=none) (hap:cells.Pairwise fun x y=>x.2≠y.2)
    (hown:∀ n,(n,NameKind.cell)∈sc.names→∃ a,cells.lookup n=some a∧t.h.IsCell a none∧a∉t.ρ∧G.h₀.get? a=none) (hfree:∀ n,(n,NameKind.free)∈sc.names→cells.lookup n=env.cells.lookup n) :
    FR (compEnvC sc cells Cl env) (inner sc.names own c.sl) (List.replicate own.length none++loc) t:=by
  have kind:∀ x,(compEnvC sc cells Cl env).kindOf x=(sc.names.lookup x).map fun k=>if k == .free && c.names.lookup x == some .cell then .cell else k:=fun x=>by
    show (relabel sc env).names.lookup x=_
    rw [relabel_names F.ok.kind hn,lookup_relab]
  obtain ⟨m,hm,hs⟩:=F.slots
  refine ⟨⟨hkind,F.ok.glob,F.ok.blt,vis_inner ok F.ok.nodup,hap,nC.2⟩,?_,nC.1,_,hC,fun k p v e1 e2 hp=>?_⟩
  · unfold inner;rw [List.length_append,List.length_append,List.length_replicate,List.length_map,List.length_map,F.len]
  · unfold inner at e1
    by_cases hk:k < own.length
    · rw [List.getElem?_append_left (by rw [List.length_map];exact hk),List.getElem?_map] at e1
      rw [List.getElem?_append_left (by rw [List.length_replicate];exact hk),List.getElem?_replicate,if_pos hk] at e2
      obtain rfl:=Option.some.inj e2
      obtain ⟨x,hx,rfl⟩:=Option.map_eq_some_iff.mp e1
      by_cases q:(sc.names.lookup x == some NameKind.cell)=true
      · have q':=eq_of_beq q
        obtain ⟨a,a1,a2,a3⟩:=hown x (PySem.mem_of_lookup q')
        rw [if_pos q]
        exact ⟨by rw [kind,q'];rfl,.inr ⟨(fun z=>nomatch z),a,a1,.inr ⟨a3.1,a3.2,none,a2,.none⟩⟩⟩
      · have q':sc.names.lookup x=some .local:=(ok.kinds x (List.mem_of_getElem? hx)).resolve_right fun z=>q (by rw [z];rfl)
        rw [if_neg q]
        exact ⟨by rw [kind,q'];rfl,.inl ⟨rfl,.none⟩⟩
    · have hk:=Nat.not_lt.mp hk
      rw [List.getElem?_append_right (by rw [List.length_map];exact hk),List.getElem?_map,List.length_map] at e1
      rw [List.getElem?_append_right (by rw [List.length_replicate];exact hk),List.length_replicate] at e2
      obtain ⟨⟨x,pk⟩,hx,rfl⟩:=Option.map_eq_some_iff.mp e1
      cases hq:(own.contains x || !(sc.names.lookup x == some NameKind.free) || !(pk == .cel || pk == .free)) with
      | true=>rw [hq] at hp;exact absurd rfl hp
      | false =>
        show _=some pk.kind∧((pk = .loc∧_)∨(pk≠.loc∧∃ c,cells.lookup x=some c∧CellAt t c v))
        have hq:=Bool.or_eq_false_iff.mp hq
        have q2:sc.names.lookup x=some .free:=eq_of_beq ((Bool.not_eq_false' _).mp (Bool.or_eq_false_iff.mp hq.1).2)
        have q3:=(bO ((Bool.not_eq_false' _).mp hq.2)).imp eq_of_beq eq_of_beq
        have base:=hs _ _ _ hx e2 (fun z=>q3.elim (fun h=>nomatch h.symm.trans z) fun h=>nomatch h.symm.trans z)
        have nl:pk≠.loc:=fun z=>q3.elim (fun h=>nomatch h.symm.trans z) fun h=>nomatch h.symm.trans z
        obtain ⟨_,a,g2,g3⟩:=base.2.resolve_left fun z=>nl z.1
        refine ⟨?_,.inr ⟨nl,a,(hfree x (PySem.mem_of_lookup q2)).trans g2,g3⟩⟩
        have b1:c.names.lookup x=some pk.kind:=by rw [← hn];exact base.1
        rw [kind,q2,b1]
        exact q3.elim (fun h=>by rw [h];rfl) fun h=>by rw [h];rfl
theorem store_own {sl:Sl}{ow:Addr→Prop}{L:Loc}{k:Nat}{x:PySem.Str}{pk:Pk}{u:Option V}{v:V}{y:Value}{K:Loc→AH→Prop}{Q:Unit→Shared→Prop} (F:FR env sl L t) (e:sl[k]?=some (x,pk)) (hpk:pk = .loc∨pk = .cel) (el:L[k]?=some u) (hu:notCelO u=true)
    (ho:ow env.locals) (hc:pk = .cel→∀ c,env.cells.lookup x=some c→ow c) (r:RV t v y) (q:K (L.set k (some v)) t.H) (hq:ToL ow env sl t K Q):wpAny (model pw G.w) A (storeName env x y) Q E₀ t.s :=
  hpk.elim (fun h=>store_local F (h▸e) r q (hq.mono fun a h=>h▸ho)) fun h=>store_cell F (h▸e) el hu r q (hq.mono (hc h))
structure OwnSlots (ow:Addr→Prop) (sc:Scope) (cells:List (PySem.Str × Addr)) (Cl:Addr):Prop where
  cl:ow Cl
  cells:∀ n a,(n,NameKind.cell)∈sc.names→cells.lookup n=some a→ow a
theorem OwnSlots.slot {ow:Addr→Prop} (o:OwnSlots ow sc cells Cl) {own:List PySem.Str}{sl:Sl}{k:Nat}{x:PySem.Str} (hx:own[k]?=some x) {C:Prop} (f:∀ pk,(inner sc.names own sl)[k]?=some (x,pk)→(pk = .loc∨pk = .cel)→(pk = .cel→∀ a,cells.lookup x=some a→ow a)→C):C:=by
  have e:(inner sc.names own sl)[k]?=some (x,if sc.names.lookup x == some .cell then .cel else .loc):=by
    unfold inner
    rw [List.getElem?_append_left (by rw [List.length_map];exact (gS hx).1),List.getElem?_map,hx];rfl
  by_cases q:(sc.names.lookup x == some NameKind.cell)=true
  · rw [if_pos q] at e
    exact f .cel e (.inr rfl) fun _ a=>o.cells x a (PySem.mem_of_lookup (eq_of_beq q))
  · rw [if_neg q] at e
    exact f .loc e (.inl rfl) fun z=>nomatch z
theorem comp_assign {ow:Addr→Prop}{tE:Expr}{l':Loc}{v:V}{va:Value}{K:Loc→AH→Prop}{Q:Unit→Shared→Prop} (hh:A.handled=none) (hok:ownOk tE=true) (o:OwnSlots ow sc cells Cl) (F:FR (compEnvC sc cells Cl env) (inner sc.names (ownNames tE) c.sl) (l'++loc) t)
    (hl:l'.length=(ownNames tE).length) (hnc:∀ u,u∈l'→notCelO u=true) (r:RV t v va) (e:compOwn (ownNames tE).length v fun o=>K o t.H)
    (hq:∀ t' o,Step ow t t'→K o t'.H→FR (compEnvC sc cells Cl env) (inner sc.names (ownNames tE) c.sl) (o++loc) t'→o.length=(ownNames tE).length→(∀ u,u∈o→notCelO u=true)→Q () t'.s):wpAny (model pw G.w) A (assign tE (compEnvC sc cells Cl env) va) Q E₀ t.s:=by
  revert F hl e hq
  apply ownOk_elim hok
  · intro x p F hl e hq
    obtain ⟨u,l,rfl⟩:=List.exists_cons_of_length_eq_add_one hl
    obtain rfl:=List.eq_nil_of_length_eq_zero (Nat.succ.inj hl)
    exact o.slot (own:=[x]) (k:=0) rfl fun pk g1 g2 g3=>wpAny_assign_Name (store_own (K:=fun loc' H=>loc'=some v :: loc∧K [some v] H) F g1 g2 (u:=u) rfl (hnc _ (List.mem_cons_self ..)) o.cl g3 r ⟨rfl,e.elim (fun e=>e.2) fun e=>nomatch e.1⟩
      fun t₁ loc₁ st₁ e₁ F₁=>hq t₁ [some v] st₁ e₁.2 (show FR _ _ (some v :: loc) t₁ from e₁.1▸F₁) rfl fun u m=>mS m▸r.noCel)
  · intro x p y q k pos F hl e hq
    obtain ⟨u1,l,rfl⟩:=List.exists_cons_of_length_eq_add_one hl
    obtain ⟨u2,l,rfl⟩:=List.exists_cons_of_length_eq_add_one (Nat.succ.inj hl)
    obtain rfl:=List.eq_nil_of_length_eq_zero (Nat.succ.inj (Nat.succ.inj hl))
    have e:=e.resolve_left fun e=>nomatch e.1
    apply r.onTup e.2;intro vs a us n e gt _ r1
    obtain ⟨v1,v2,rfl,e⟩:=e
    refine wpAny_assign_Tuple hh (tupObj_is gt) (by rw [List.size_toArray,← r1.len];rfl) rfl fun h' hb=>?_
    have kp:∀ a o,t.h.get? a=some o→h'.get? a=some o:=fun a o q=>hb a o (fun z=>nomatch (new_none t.h).symm.trans (show t.h.get? _=some o from z▸q)) q
    have st:=t.grown (own:=none') kp t.s.toks
    show wpAny _ _ (assignInOrder _ us) _ _ _
    apply (st.later.all r1).two;intro x1 x2 ra rb
    refine wpAny_bind (m:=holding [x2] (assign (.Name x p) _ x1)) (wpAny_holding (o.slot (own:=[x,y]) (k:=0) rfl fun pk g1 g2 g3=>wpAny_assign_Name (store_own (t:=t.grow kp t.s.toks) (K:=fun loc' H=>loc'=some v1 :: u2 :: loc∧K [some v1,some v2] H) (F.step st) g1 g2 (u:=u1) rfl (hnc _ (List.mem_cons_self ..)) o.cl g3 ra ⟨rfl,e⟩ fun t₁ loc₁ st₁ e₁ F₂=>?_)))
    obtain ⟨rfl,e₁⟩:=e₁
    refine wpAny_bind (m:=holding [] (assign (.Name y q) _ x2)) (wpAny_holding (o.slot (own:=[x,y]) (k:=1) rfl fun pk g4 g5 g6=>wpAny_assign_Name (store_own (K:=fun loc' H=>loc'=some v1 :: some v2 :: loc∧K [some v1,some v2] H) F₂ g4 g5 (u:=u2) rfl (hnc _ (List.mem_cons_of_mem _ (List.mem_cons_self ..))) o.cl g6 (rb.later st₁.later) ⟨rfl,e₁⟩
      fun t₂ loc₂ st₂ e₂ F₃=>wpAny_pure (hq t₂ _ ((st.any.trans st₁).trans st₂) e₂.2 (show FR _ _ (some v1 :: some v2 :: loc) t₂ from e₂.1▸F₃) rfl fun u m=>(mZ m).elim (fun q=>q▸ra.noCel) fun m=>mS m▸rb.noCel))))
end
theorem Step.comp0 {G:Ctx}{t t₁ t₂:St G}{own:Addr→Prop} (a:Step none' t t₁) (b:Step own t₁ t₂) (f:∀ x,own x→t.h.get? x=none):Step none' t t₂ :=
  ((a.any (own:=own)).trans b).shed fun x o hx e=>nomatch (f x hx).symm.trans e
noncomputable def noE (_:Value) (_:Shared):Prop:=False
noncomputable def compTail (w:World) (A:Around) (elt:Expr) (env:Env) (acc:Value) (J:Shared→Prop) (ok:Bool) (s:Shared):Prop :=
  iteB ok (wpAny (model pw w) A (eval elt env) (fun x s₄=>wpAny (model pw w) A (call (.builtin "list.append") [acc,x]) (fun _ s₅=>J s₅) noE s₄) noE s) (J s)
noncomputable def compTests (w:World) (A:Around) (ifs:List Expr) (env:Env) (Q:Bool→Shared→Prop) (s:Shared):Prop :=
  wpAny (model pw w) A (forIn ifs true fun c r=>if r=true then do let ok ← isTrue c env (eval c env);pure (ForInStep.yield ok) else pure (ForInStep.yield r)) Q noE s
theorem compLoop_rule {w:World}{A:Around}{elt target iter:Expr}{ifs:List Expr}{scope:Scope}{pos:Pos}{I:Addr}{acc:Value}{env:Env}{R:Result→Shared→Prop}{s:Shared} (J:Nat→Shared→Prop)
    (turn:∀ n s,J n s→wpAny (model pw w) A (pyNext (.ref I)) (nextP w A noE target I (R (.ok .next)) fun v s₁=>wpAny (model pw w) A (assign target env v) (fun _=>compTests w A ifs env (compTail w A elt env acc fun s=>∃ m,m < n∧J m s)) noE s₁) noE s)
    (n:Nat) (h:J n s):codeAny (model pw w) A (.compLoop (.ListComp elt [⟨target,iter,ifs,0⟩] scope pos) 0 (.ref I) acc env) R s:=by
  refine codeAny_loop rfl J (fun n s hI=>?_) n h
  show wpAny _ A ((compTurn (.ListComp elt [⟨target,iter,ifs,0⟩] scope pos) 0 (.ref I) acc env).onRaise (fun x=>do noteFrame x env;theTreesLotGoes x)) _ _ s
  refine wpAny_noted ?_
  rw [compTurn_list]
  refine wpAny_bind (wpAny_standAt (wpAny_bind (wpAny_mono (turn n s hI) (fun r s₁ h₁=>?_) fun _ _ h'=>h'.elim)))
  cases r with
  | none=>exact wpAny_pure h₁
  | some v =>
    refine wpAny_bind (wpAny_mono h₁ (fun _ s₁' h₁'=>wpAny_bind (wpAny_mono h₁' (fun _ s₂ h₂=>wpAny_bind (wpAny_mono h₂ (fun ok s₃ h₃=>?_) fun _ _ h'=>h'.elim)) fun _ _ h'=>h'.elim)) fun _ _ h'=>h'.elim)
    cases ok with
    | false=>exact wpAny_pure ⟨rfl,h₃⟩
    | true=>exact wpAny_bind (wpAny_bind (wpAny_mono h₃ (fun x s₄ h₄=>wpAny_bind (wpAny_mono h₄ (fun _ s₅ h₅=>wpAny_pure (wpAny_pure ⟨rfl,h₅⟩)) fun _ _ h'=>h'.elim)) fun _ _ h'=>h'.elim))
structure CPt where
  Dl:Addr
  Cl:Addr
  I:Addr
  fp:List Addr
  cells:List (PySem.Str × Addr)
  sc:Scope
  tE:Expr
structure CFix {G:Ctx} (t₀:St G) (d:CPt):Prop where
  fp:∀ a,a∈d.fp→t₀.h.get? a=none∧@LT.lt Nat _ a d.Dl
  dl:t₀.h.get? d.Dl=none
  dc:@LT.lt Nat _ d.Dl d.Cl
  fresh:∀ a,@LE.le Nat _ d.Cl a→t₀.h.get? a=none
  inn:∀ n a,(n,a)∈d.cells→(∃ o,t₀.h.get? a=some o)∨@LT.lt Nat _ d.Cl a
  own:∀ n a,(n,NameKind.cell)∈d.sc.names→d.cells.lookup n=some a→@LT.lt Nat _ d.Cl a
noncomputable abbrev CPt.c (d:CPt) (c:CkD):CkD:=⟨relab c.names d.sc.names,inner d.sc.names (ownNames d.tE) c.sl,c.nest - 1⟩
noncomputable abbrev CPt.pt (d:CPt) (p:Pt):Pt:=⟨d.c p.c,p.A,compEnvC d.sc d.cells d.Cl p.env,noE⟩
structure CInv {G:Ctx} (t₀:St G) (d:CPt) (p:Pt) (loc:Loc) (it:Iter) (k:Nat) (acc:List V) (t:St G):Prop where
  st:Step none' t₀ t
  fr:∃ l',FR (d.pt p).env (d.c p.c).sl (l'++loc) t∧l'.length=(ownNames d.tE).length∧∀ u,u∈l'→notCelO u=true
  it:ItAt G t.ρ t.h it k d.I d.fp
  off:Off t d.fp
  lst:∃ us n,t.h.get? d.Dl=some (lstObj (List.toArray us) n)∧RVs t acc us
  nd:d.Dl∉t.ρ
noncomputable def CEnd {G:Ctx} (t₀:St G) (d:CPt) (K:List V→AH→Prop) (R:Result→Shared→Prop):Prop:=∀ t' vs us n m,Step none' t₀ t'→K vs t'.H→t'.h.get? d.Dl=some (lstObj (List.toArray us) n)→RVs t' vs us→d.Dl∉t'.ρ→t'.h.Ns d.Cl m→d.Cl∉t'.ρ→R (.ok .next) t'.s
section
variable {X:Cx}{t₀ t t':St X.G}{d:CPt}{p:Pt}{loc:Loc}{it:Iter}{k:Nat}{acc:List V}{own:Addr→Prop}
theorem nle {a b:Nat} (h:a < b):¬ b≤a:=Nat.not_le.mpr h
noncomputable def condK (O:Orc) (cd:Option T) (loc:Loc) (o:List (Option V)):CM Bool:=fun H Q=>match cd with | some t=>evT O t (o++loc) H Q | none=>Q true H
theorem CInv.step {acc':List V} (F:CFix t₀ d) (J:CInv t₀ d p loc it k acc t) (st:Step own t t') (fresh:∀ a,own a→t₀.h.get? a=none) (hf:∀ a,own a→a∉d.fp) (hC:¬ own d.Cl) (hc:∀ n c,(n,c)∈d.cells→¬ own c)
    (lst:∃ us n,t'.h.get? d.Dl=some (lstObj (List.toArray us) n)∧RVs t' acc' us):CInv t₀ d p loc it k acc' t':=by
  have z:=J.it.step st J.off fun a m o=>hf a o m
  obtain ⟨us,n,g,_⟩:=J.lst
  exact ⟨J.st.comp0 st fresh,J.fr.imp fun l' f=>⟨f.1.step' st hC fun n c m=>hc n c (PySem.mem_of_lookup m),f.2⟩,z.1,z.2,lst,st.alone J.nd g⟩
theorem CInv.list (J:CInv t₀ d p loc it k acc t) (st:Step own t t') (h:¬ own d.Dl):∃ us n,t'.h.get? d.Dl=some (lstObj (List.toArray us) n)∧RVs t' acc us :=
  J.lst.imp fun us g=>g.imp fun n g=>⟨st.keep _ _ g.1 J.nd h,st.later.all g.2⟩
theorem CInv.any (F:CFix t₀ d) (J:CInv t₀ d p loc it k acc t) (st:Step none' t t'):CInv t₀ d p loc it k acc t':=J.step F st (fun _ h=>h.elim) (fun _ h=>h.elim) id (fun _ _ _=>id) (J.list st id)
theorem cells_no (F:CFix t₀ d) {n:PySem.Str}{a:Addr} (m:(n,a)∈d.cells) (h:t₀.h.get? a=none) (h2:@LE.le Nat _ a d.Cl):False :=
  (F.inn n a m).elim (fun e=>e.elim fun _ e=>nomatch h.symm.trans e) fun e=>Nat.lt_irrefl _ (Nat.lt_of_lt_of_le e h2)
noncomputable def turnK (O:Orc) (it:Iter) (own:Nat) (cd:Option T) (elt:E) (loc:Loc) (n k:Nat) (acc:List V) (K:List V→AH→Prop) (o:List (Option V)) (r:Bool) (H:AH):Prop :=
  iteB r (evE O elt (o++loc) H fun x H=>acc.length < lim∧compTurns it own (condK O cd loc) (fun o=>evE O elt (o++loc)) n (k+1) (acc++[x]) H K) (compTurns it own (condK O cd loc) (fun o=>evE O elt (o++loc)) n (k+1) acc H K)
noncomputable def CJ (X:Cx) (t₀:St X.G) (d:CPt) (p:Pt) (loc:Loc) (it:Iter) (cd:Option T) (elt:E) (K:List V→AH→Prop) (n:Nat) (s:Shared):Prop :=
  ∃ (t:St X.G) (k:Nat) (acc:List V),t.s=s∧CInv t₀ d p loc it k acc t∧compTurns it (ownNames d.tE).length (condK X.O cd loc) (fun o=>evE X.O elt (o++loc)) n k acc t.H K
variable {elt:E}{cd:Option T}{K:List V→AH→Prop}{n:Nat}
theorem comp_tail {eltE:Expr}{o:List (Option V)}{b:Bool} (helt:EOk X elt) (h1:chkE X.Kf (d.c p.c) elt eltE=true) (F:CFix t₀ d) (J:CInv t₀ d p loc it (k+1) acc t) (on':On X (d.pt p) (o++loc) t)
    (e:turnK X.O it (ownNames d.tE).length cd elt loc n k acc K o b t.H):compTail X.G.w p.A eltE (d.pt p).env (.ref d.Dl) (fun s=>∃ m,m < n+1∧CJ X t₀ d p loc it cd elt K m s) b t.s:=by
  cases b with
  | false=>exact ⟨n,Nat.lt_succ_self _,t,k+1,acc,rfl,J,e⟩
  | true =>
    refine helt (d.pt p) eltE _ t _ _ h1 on' e fun t₄ y va st₄ e r₄=>?_
    have J₄:=J.any F st₄
    obtain ⟨us,c,g,r⟩:=J₄.lst
    refine call_meets PySem.F.slot_list_append ⟨_,g,rfl⟩ PySem.F.entry_list_append (PySem.F.args_list_append_2 _ _) (list_append d.Dl us.toArray c va (lim_size (by rw [List.size_toArray,← r.len];exact Nat.le_of_lt e.1))) ⟨g,?_⟩
    obtain ⟨c',g'⟩:=upd_self (fun xs=>xs.push va) g
    have kk:∀ a o,t₄.h.get? a=some o→¬ a=d.Dl→(t₄.h.update d.Dl (Obj.mapSeq fun xs=>xs.push va)).get? a=some o:=fun a o q ne=>upd_other _ a o ne q
    have ho:∀ a o,a=d.Dl→t₄.h.get? a=some o→a∉t₄.ρ∧¬ Fix X.G a o:=fun a o q z=>by
      subst q
      obtain rfl:=Option.some.inj (g.symm.trans z)
      exact ⟨J₄.nd,fun f=>f.elim (fun f=>nomatch (show Value.type "list" = Value.type "tuple" from f)) fun f=>nomatch (t₀.sim.free0 F.dl).symm.trans f⟩
    have st₅:Step (·=d.Dl) t₄ (t₄.turn (own:=(·=d.Dl)) kk ho t₄.s.toks):=t₄.owns kk ho (fun a o q _=>by rw [q];exact ⟨_,g'⟩) _
    exact ⟨n,Nat.lt_succ_self _,t₄.turn (own:=(·=d.Dl)) kk ho t₄.s.toks,k+1,acc++[y],rfl,J₄.step F st₅ (fun a q=>q▸F.dl) (fun a q m=>Nat.lt_irrefl d.Dl (show d.Dl < d.Dl from q▸(F.fp a m).2)) (fun q=>Nat.lt_irrefl d.Dl (show d.Dl < d.Dl from q▸F.dc)) (fun n c m q=>cells_no F m (q▸F.dl) (q▸Nat.le_of_lt F.dc))
      ⟨us++[va],c',by rw [List.push_toArray] at g';exact g',(st₅.later.all r).app (.cons (r₄.later st₅.later) .nil)⟩,e.2⟩
theorem comp_loop {eltE iterE:Expr}{ifs:List Expr}{pos:Pos}{R:Result→Shared→Prop} (helt:EOk X elt) (hcd:∀ u,cd=some u→TOk X u) (hn:p.env.scope.names=p.c.names) (hk:p.env.scope.kind = .function) (hok:ownOk d.tE=true)
    (h1:chkE X.Kf (d.c p.c) elt eltE=true) (h2:(cd=none∧ifs=[])∨∃ u f,cd=some u∧ifs=[f]∧chkT X.Kf (d.c p.c) u f=true) (ht:(plainIt it || isTupleT d.tE)=true) (RM:Room p.A (X.D+20 * (p.c.nest - 1))) (F:CFix t₀ d)
    (hR:CEnd t₀ d K R) {fuel:Nat} (J:CInv t₀ d p loc it k acc t) (e:compTurns it (ownNames d.tE).length (condK X.O cd loc) (fun o=>evE X.O elt (o++loc)) fuel k acc t.H K) :
    codeAny (model pw X.G.w) p.A (.compLoop (.ListComp eltE [⟨d.tE,iterE,ifs,0⟩] d.sc pos) 0 (.ref d.I) (.ref d.Dl) (d.pt p).env) R t.s:=by
  refine compLoop_rule (CJ X t₀ d p loc it cd elt K) ?_ fuel ⟨t,k,acc,rfl,J,e⟩
  rintro n _ ⟨t,k,acc,rfl,J,e⟩
  cases n with
  | zero=>exact False.elim e
  | succ n =>
    have hD:d.Dl∉d.fp:=fun m=>Nat.lt_irrefl _ (F.fp _ m).2
    have hC:∀ a,a∈d.fp→@LT.lt Nat _ a d.Cl:=fun a m=>Nat.lt_trans (F.fp _ m).2 F.dc
    have hC':d.Cl∉d.fp:=fun m=>Nat.lt_irrefl _ (hC _ m)
    refine next_ok J.it p.A noE d.tE _ _ _ _ RM.handled ht J.off e ⟨fun e h' tk kk=>?_,fun v x t₁ e st₁ eH r₁ i₁=>?_⟩
    · -- the end
      obtain ⟨us,m,g1,g2⟩:=J.lst
      obtain ⟨l',f1,_⟩:=J.fr
      obtain ⟨mm,hm,_⟩:=f1.slots
      exact hR (t.turn (own:=(·∈d.fp)) kk (fun a o=>J.it.fix J.off a o) tk) acc us m mm (J.it.drop J.off J.st (fun a m=>(F.fp a m).1) kk tk) e (kk _ _ g1 hD) ((t.ownSim (own:=(·∈d.fp)) kk fun a o=>J.it.fix J.off a o).1.all g2) J.nd (Ns.same hm fun o e=>kk _ o e hC') f1.off
    · -- an item
      obtain ⟨l',f0,fl,fc⟩:=J.fr
      have cn:∀ n c,(n,c)∈d.cells→c∉d.fp:=fun n c m q=>cells_no F m (F.fp c q).1 (Nat.le_of_lt (hC c q))
      have f1:=f0.step' st₁ hC' fun n c m=>cn n c (PySem.mem_of_lookup m)
      have J₁:CInv t₀ d p loc it (k+1) acc t₁:=⟨J.st.comp0 st₁ fun a m=>(F.fp a m).1,⟨l',f1,fl,fc⟩,i₁,⟨fun a m=>(J.it.nf a m).elim fun o e=>st₁.alone (J.off.rho a m) e.1,J.off.base⟩,J.list st₁ hD,J.lst.elim fun us g=>g.elim fun n g=>st₁.alone J.nd g.1⟩
      refine comp_assign (ow:=fun a=>@LE.le Nat _ d.Cl a) (K:=fun o H=>condK X.O cd loc o H fun r H=>turnK X.O it (ownNames d.tE).length cd elt loc n k acc K o r H) RM.handled hok ⟨Nat.le_refl _,fun n a m z=>Nat.le_of_lt (F.own n a m z)⟩ f1 fl fc r₁ (eH▸e) fun t₂ o st₂ e₂ F₂ ol oc=>?_
      have i₂:=i₁.step st₂ J₁.off fun a m=>nle (hC a m)
      have J₂:CInv t₀ d p loc it (k+1) acc t₂:=⟨J₁.st.comp0 st₂ F.fresh,⟨o,F₂,ol,oc⟩,i₂.1,i₂.2,J₁.list st₂ (nle F.dc),J₁.lst.elim fun us g=>g.elim fun n g=>st₂.alone J₁.nd g.1⟩
      have on₂:On X (d.pt p) (o++loc) t₂:=⟨relabel_names hk hn,RM,F₂⟩
      refine h2.elim (fun h2=>?_) fun h2=>?_
      · obtain ⟨rfl,rfl⟩:=h2
        exact wpAny_tests_nil (comp_tail helt h1 F J₂ on₂ e₂)
      · obtain ⟨u,f,rfl,rfl,h3⟩:=h2
        exact wpAny_tests_one (hcd u rfl (d.pt p) f _ t₂ _ _ h3 on₂ e₂ fun t₃ b b' st₃ e₃ hb=>hb▸comp_tail helt h1 F (J₂.any F st₃) (on₂.step st₃) e₃)
end
section
variable {X:Cx}{t t':St X.G}{p:Pt}{loc:Loc}{own:Addr→Prop}{env:Env}{sl:Sl}
theorem FR.cell (F:FR env sl loc t) {n:PySem.Str}{pk:Pk} (m:(n,pk)∈sl) (hp:pk = .cel∨pk = .free):∃ c,env.cells.lookup n=some c∧∃ o,t.h.get? c=some o:=by
  obtain ⟨k,hk⟩:=List.mem_iff_getElem?.mp m
  have hl:k < loc.length:=by rw [F.len];exact (gS hk).1
  obtain ⟨mm,hm,hs⟩:=F.slots
  have z:=hs k _ _ hk (List.getElem?_eq_getElem hl) (fun q=>hp.elim (fun h=>nomatch h.symm.trans q) fun h=>nomatch h.symm.trans q)
  exact (z.2.resolve_left fun z=>hp.elim (fun h=>nomatch h.symm.trans z.1) fun h=>nomatch h.symm.trans z.1).2.imp fun c z=>⟨z.1,z.2.elim (fun r=>r.elim fun _ r=>t.sim.live (List.mem_of_getElem? r.2)) fun r=>r.2.2.elim fun _ r=>r.1.imp fun _ e=>e.1⟩
theorem drop_frame {t₀:St X.G}{Cl:Addr}{h':Heap}{m} (st:Step own t₀ t) (hf:t₀.h.get? Cl=none) (hns:t.h.Ns Cl m) (nc:Cl∉t.ρ) (sb:Heap.SameBut Cl t.h h') :
    ∃ t':St X.G,Step own t₀ t'∧t'.H=t.H∧t'.s={ t.s with heap:=h' }∧Later X.G t.ρ t.h t'.ρ t'.h∧∀ a o,t.h.get? a=some o→a∉t.ρ→a≠Cl→t'.h.get? a=some o∧a∉t'.ρ:=by
  obtain ⟨o,ho,nf,_⟩:=Ns.get hns
  have kk:∀ a o,t.h.get? a=some o→¬ a=Cl→h'.get? a=some o:=fun a o e n=>(sb.2 a n).trans e
  have fx:∀ a o,a=Cl→t.h.get? a=some o→a∉t.ρ∧¬ Fix X.G a o:=fun a o q e=>by
    subst q
    exact ⟨nc,fun f=>f.elim (fun f=>nf (Option.some.inj (e.symm.trans ho)▸f)) fun f=>nomatch (t₀.sim.free0 hf).symm.trans f⟩
  have ne:∀ a o,t₀.h.get? a=some o→a≠Cl:=fun a o e q=>nomatch hf.symm.trans (show t₀.h.get? Cl=some o from q▸e)
  exact ⟨t.turn (own:=(·=Cl)) kk fx t.s.toks,⟨⟨st.later.ext,fun a o e f q=>have z:=st.later.fix a o e f q;⟨kk a o z.1 (ne a o e),z.2⟩⟩,st.fresh,fun a o e q r=>kk a o (st.keep a o e q r) (ne a o e),fun a o e=>(st.alive a o e).imp fun o' e'=>kk a o' e' (ne a o e),
    congrArg (fun s:Shared=>{ s with heap:=h',toks:=t.s.toks }) st.rest⟩,rfl,rfl,(t.ownSim (own:=(·=Cl)) kk fx).1,fun a o e n q=>⟨kk a o e q,n⟩⟩
structure CompChk (K:Frag) (c:CkD) (elt:E) (own:Nat) (it:It) (cd:Option T) (q:Pay .lc) (g:Comprehension):Prop where
  nest:0 < c.nest
  plain:(itPlain it || isTupleT g.target)=true
  sync:g.is_async=0
  it:chkIt K c it g.iter=true
  own:(ownNames g.target).length=own
  names:ownOk g.target=true
  ok:CompOk c.sl q.2.2.1.names (ownNames g.target)
  kind:q.2.2.1.kind = .function
  elt:chkE K (compIn c q g) elt q.1=true
  cond:(cd=none∧g.ifs=[])∨∃ u f,cd=some u∧g.ifs=[f]∧chkT K (compIn c q g) u f=true
theorem chkLc_elim {K:Frag}{c:CkD}{elt:E}{own:Nat}{it:It}{cd:Option T}{cf:CkD→List Expr→Bool}{x:Expr}{C:Expr→Prop} (h:chkLc c own (itPlain it) (fun c x=>chkE K c elt x) (fun x=>chkIt K c it x) cf x=true)
    (hc:∀ c l,cf c l=true→(cd=none∧l=[])∨∃ u f,cd=some u∧l=[f]∧chkT K c u f=true) (f:∀ (q:Pay .lc) g,CompChk K c elt own it cd q g→C (.ListComp q.1 [g] q.2.2.1 q.2.2.2)):C x :=
  on_elim h fun q h=>one_elim (C:=fun l=>C (.ListComp q.1 l q.2.2.1 q.2.2.2)) h fun g h =>
    f q g ⟨of_decide_eq_true (andL h),(andL (andR h)),eq_of_beq (andL (andR (andR h))),(andL (andR (andR (andR h)))),eq_of_beq (andL (andR (andR (andR (andR h))))),(andL (andR (andR (andR (andR (andR h)))))),compOk_of (andL (andR (andR (andR (andR (andR (andR h))))))),eq_of_beq (andL (andR (andR (andR (andR (andR (andR (andR h)))))))),(andL (andR (andR (andR (andR (andR (andR (andR (andR h))))))))),hc _ _ (andR (andR (andR (andR (andR (andR (andR (andR (andR h)))))))))⟩
theorem compChk_of {K:Frag}{c:CkD}{elt:E}{own:Nat}{it:It}{cd:Option T}{x:Expr}{C:Expr→Prop} (h:chkE K c (.comp elt own it cd) x=true) (f:∀ (q:Pay .lc) g,CompChk K c elt own it cd q g→C (.ListComp q.1 [g] q.2.2.1 q.2.2.2)):C x:=by
  cases cd with
  | none=>exact chkLc_elim (cf:=fun c l=>l.isEmpty) h (fun _ l h=>.inl ⟨rfl,List.isEmpty_iff.mp h⟩) f
  | some u=>exact chkLc_elim (cf:=fun c l=>onOne l fun f=>chkT K c u f) h (fun c l h=>one_elim (C:=fun l=>(some u=none∧l=[])∨∃ u' f,some u=some u'∧l=[f]∧chkT K c u' f=true) h fun f g=>.inr ⟨u,f,rfl,rfl,g⟩) f
theorem comp_core {elt:E}{own:Nat}{it:It}{cd:Option T} (helt:EOk X elt) (hcd:∀ t,cd=some t→TOk X t) (hit:ItOk X it) {q:Pay .lc}{g:Comprehension} (k:CompChk X.Kf p.c elt own it cd q g) {K:V→AH→Prop}{Q:Value→Shared→Prop}{use:Option (Value→Sem Unit)} (on':On X p loc t)
    (e:evE X.O (.comp elt own it cd) loc t.H K) (hp:∀ (t':St X.G) Dl Cl m v,Step none' t t'→K v t'.H→RV t' v (.ref Dl)→t.h.get? Cl=none→t'.h.Ns Cl m→Cl∉t'.ρ→compPost (model pw X.G.w) p.A p.E use Q (.ref Dl) Cl (.ok .next) t'.s) :
    wpAny (model pw X.G.w) p.A (comprehension (.ListComp q.1 [g] q.2.2.1 q.2.2.2) q.2.2.1 p.env (firstIterPos [g] q.2.2.2) (PySem.newList []) (firstAsync [g]) (firstIter [g] p.env) use) Q p.E t.s:=by
  have e:evIt X.O it loc t.H fun i H=>compTurns i own (condK X.O cd loc) (fun o=>evE X.O elt (o++loc)) fuelFor 0 [] H fun vs H=>newList vs H K:=by cases cd<;>exact e
  have hfree:∀ n,(n,NameKind.free)∈q.2.2.1.names→∃ c,p.env.cells.lookup n=some c∧∃ o,t.h.get? c=some o:=fun n m=>(k.ok.free n m).elim fun pk k=>on'.fr.cell k.1 k.2
  have hfree':∀ n,(n,NameKind.free)∈q.2.2.1.names→∃ c,p.env.cells.lookup n=some c:=fun n m=>(hfree n m).imp fun _ k=>k.1
  have fc:=freeCells_spec hfree' k.ok.uniq
  have clPw:(freeCells p.env q.2.2.1.names).Pairwise fun x y=>x.2≠y.2 :=
    (List.pairwise_map.mp fc.2.2).imp_of_mem fun {x y} hx hy hxy e=>hxy (cell_name on'.fr.ok.apart (fc.2.1 x hx).2 (e▸(fc.2.1 y hy).2))
  have clLive:∀ x∈freeCells p.env q.2.2.1.names,∃ o,t.h.get? x.2=some o:=fun x hx=>(hfree x.1 (fc.2.1 x hx).1).elim fun c' z=>Option.some.inj (z.1.symm.trans (fc.2.1 x hx).2)▸z.2
  obtain ⟨tE,iE,ifs,a⟩:=g
  obtain rfl:a=0:=k.sync
  refine wpAny_comprehension_free (use:=use) rfl (chkIt_fold k.it p.env) (closureFor_run hfree') k.kind (fun x hx hk=>mem_lookup k.ok.uniq (by obtain ⟨a,b⟩:=x;subst hk;exact hx)) ?_
  refine hit p iE loc t _ _ k.it on' e fun I i t₂ fp st₂ e₂ pl ia off f0=>wpAny_newObj_type (newEnv_comp ?_)
  have hDl:=new_none t₂.h
  generalize hh3:t₂.s.heap.push { cls:=.type "list",dict:=none,data:=.seq ([]:List Value).toArray }=h3
  have z3:h3.objs.size=t₂.h.objs.size+1:=by rw [← hh3,Heap.size_push]
  have kp3:∀ a o,t₂.h.get? a=some o→h3.get? a=some o:=fun a o q=>hh3▸Heap.get?_push_of_some _ q
  have hl3:h3.get? t₂.h.objs.size=some (lstObj #[] 0):=hh3▸Heap.get?_push_size _ rfl
  show codeAny (model pw X.G.w) p.A _ _ { t₂.s with heap:=pushCells (h3.push { cls:=.type "dict",data:=.dict #[] }) q.2.2.1.names }
  generalize hh4:h3.push { cls:=.type "dict",data:=.dict #[] }=h4
  have z4:h4.objs.size=h3.objs.size+1:=by rw [← hh4,Heap.size_push]
  have hns4:h4.Ns h3.objs.size fun _=>none:=hh4▸Heap.Ns.new h3 (.type "dict")
  have kp5:∀ a o,h4.get? a=some o→(pushCells h4 q.2.2.1.names).get? a=some o:=fun a o q=>pushCells_keeps _ _ _ _ q
  have kp4:∀ a o,h3.get? a=some o→(pushCells h4 q.2.2.1.names).get? a=some o:=fun a o q=>kp5 a o (hh4▸Heap.get?_push_of_some _ q)
  have kp:∀ a o,t₂.h.get? a=some o→(pushCells h4 q.2.2.1.names).get? a=some o:=fun a o q=>kp4 a o (kp3 a o q)
  have lt2:∀ a o,t.h.get? a=some o→@LT.lt Nat _ a t₂.h.objs.size:=fun a o q=>(st₂.alive a o q).elim fun o' q'=>Heap.lt_size q'
  have l23:t₂.h.objs.size < h3.objs.size:=z3▸Nat.lt_succ_self _
  have C:=cellsFrom_spec q.2.2.1.names h4 (freeCells p.env q.2.2.1.names) clPw fun x hx=>(clLive x hx).elim fun o e=>Nat.lt_trans (lt2 _ _ e) (Nat.lt_trans l23 (z4▸Nat.lt_succ_self _))
  rw [z4] at C
  have st₄:=t₂.grown (own:=none') kp t₂.s.toks
  have big:∀ a,@LE.le Nat _ t₂.h.objs.size a→t₂.h.get? a=none:=fun a ha=>by
    cases q:t₂.h.get? a with
    | none=>rfl
    | some o=>exact absurd (Heap.lt_size q) (Nat.not_lt.mpr ha)
  have new:∀ a,@LE.le Nat _ t₂.h.objs.size a→a∉t₂.ρ∧X.G.h₀.get? a=none:=fun a ha=>t₂.sim.fresh (big a ha)
  let d:CPt:=⟨t₂.h.objs.size,h3.objs.size,I,fp,cellsFrom (h3.objs.size+1) q.2.2.1.names (freeCells p.env q.2.2.1.names),q.2.2.1,tE⟩
  have F:CFix t d:=⟨fun a m=>⟨f0 a m,(ia.nf a m).elim fun o q=>Heap.lt_size q.1⟩,st₂.dead hDl,l23,fun a ha=>st₂.dead (big a (Nat.le_trans (Nat.le_of_lt l23) ha)),fun n a m=>(C.2.1 _ m).imp (clLive _) id,
    fun n a m q=>(C.2.2.2 n m).elim fun a' z=>Option.some.inj (z.1.symm.trans q)▸z.2.1⟩
  have FI:=fr_inner (t:=t₂.grow kp t₂.s.toks) (Cl:=h3.objs.size) (cells:=d.cells) k.ok k.kind on'.names (on'.fr.step (st₂.trans st₄)) (hns4.keeps kp5) (new _ (Nat.le_of_lt l23)) C.1
    (fun n m=>(C.2.2.2 n m).imp fun a z=>⟨z.1,z.2.2,new a (Nat.le_trans (Nat.le_of_lt l23) (Nat.le_of_lt z.2.1))⟩)
    (fun n m=>by rw [C.2.2.1 n (fun m'=>nomatch (mem_lookup k.ok.uniq m).symm.trans (mem_lookup k.ok.uniq m')),fc.1 n m])
  have i₄:=ia.step st₄ off fun _ _=>id
  have J:CInv t d p loc i 0 [] (t₂.grow kp t₂.s.toks):=⟨st₂.trans st₄,⟨_,FI,List.length_replicate,fun u m=>by rw [List.eq_of_mem_replicate m];rfl⟩,i₄.1,i₄.2,⟨[],0,kp4 _ _ hl3,.nil⟩,(new _ (Nat.le_refl _)).1⟩
  have loop:=comp_loop (d:=d) (t:=t₂.grow kp t₂.s.toks) (iterE:=iE) (pos:=q.2.2.2) (R:=compPost (model pw X.G.w) p.A p.E use Q (.ref d.Dl) d.Cl) helt hcd on'.names on'.fr.ok.kind k.names k.elt k.cond
    (Bool.or_eq_true_iff.mpr ((bO k.plain).imp pl id)) ⟨on'.room.handled,on'.room.guards,Nat.lt_of_le_of_lt (Nat.add_le_add_left (Nat.add_le_add_left (Nat.mul_le_mul_left _ (Nat.sub_le _ _)) _) _) on'.room.depth,Nat.lt_of_le_of_lt (Nat.add_le_add_left (Nat.add_le_add_left (Nat.mul_le_mul_left _ (Nat.sub_le _ _)) _) _) on'.room.units⟩ F
    (fun t' vs us n m st' e' g1 g2 nd hns nc=>?_) J (k.own▸e₂)
  · exact codeAny_compStart_list loop (ItAt.self (t:=t₂.grow kp t₂.s.toks) loop i₄.1)
  · obtain ⟨t'',st'',eH,eR,es,r,_⟩:=St.enter (o:=.list vs) (h':=t'.h) (tk:=t'.s.toks) st' (st₂.dead hDl) nd (fun o q f=>by
      rw [g1] at q
      obtain rfl:=Option.some.inj q
      exact nomatch (show Value.type "list" = Value.type "tuple" from f)) (fun _ _ _ q=>q) fun L=>⟨us,n,g1,L.all g2⟩
    have eh:t''.h=t'.h:=congrArg Shared.heap es
    refine (show t''.s=t'.s from es)▸hp t'' d.Dl d.Cl m _ st'' (eH▸e'.2) r (st₂.dead (big _ (Nat.le_of_lt l23))) (eh▸hns) fun m=>?_
    rw [eR] at m
    exact (mA m).elim nc fun m=>Nat.ne_of_lt l23 (mS m).symm
theorem ok_comp {elt:E}{own:Nat}{it:It}{cd:Option T} (helt:EOk X elt) (hcd:∀ t,cd=some t→TOk X t) (hit:ItOk X it):EOk X (.comp elt own it cd):=by
  intro p x loc t K Q h on' e hq
  apply compChk_of h;intro q g k
  rw [eval_ListComp]
  exact comp_core helt hcd hit k on' e fun t' Dl Cl m v st' e r hf hns nc=>⟨m,hns,fun h' sb=>(drop_frame st' hf hns nc sb).elim fun t'' z=>z.2.2.1▸hq t'' v _ z.1 (z.2.1▸e) (r.later z.2.2.2.1)⟩
structure Ok (X:Cx) (D₀:Nat):Prop where
  hD:D₀+10≤X.D
  fo:FnOk X.G X.O D₀
  co:CloOk X.G X.O D₀
variable {D₀:Nat} (Y:Ok X D₀)
include Y
theorem eok (e:E):EOk X e :=
  E.rec (motive_1:=EOk X) (motive_2:=TOk X) (motive_3:=ItOk X) (motive_4:=EsOk X) (motive_5:=KsOk X) (motive_6:=fun o=>∀ u,o=some u→TOk X u) (motive_7:=fun p=>EOk X p.1∧EOk X p.2)
    ok_c ok_l ok_lc (fun _ _ _ a b=>ok_bin a b) (fun _ a=>ok_neg a) (fun _ _ _ a b=>ok_cmp a b) (fun _ _ _ u a b=>ok_ite u a b) (fun _ _ a=>ok_attr a) (fun _ _ a b=>ok_sub a b) (fun _ _ a b=>ok_upto a b) (fun _ a=>ok_rev a) (fun _ a=>ok_tup a) (fun _ a=>ok_lst a) (fun _ a=>ok_dct a) (fun _ _ a=>ok_fn Y.hD Y.fo a) (fun _ _ _ a b=>ok_me Y.hD Y.fo a b) (fun _ _ a=>ok_new Y.hD Y.fo a) (fun _ _ a=>ok_var Y.hD Y.fo Y.co a) (fun _ a=>ok_len a) (fun _ a=>ok_tuple a) (fun _ a=>ok_toInt a) (fun _ a=>ok_toBytes a) (fun _ a=>ok_ord a) (fun _ a=>ok_sorted a) (fun _ a=>ok_max a) (fun _ a=>ok_str a) (fun _ a=>ok_repr a) (fun _ a=>ok_listOf a) (fun _ a=>ok_listRange a) (fun _ _ a b=>ok_app a b) (fun _ a=>ok_pop a) (fun _ _ a b=>ok_popAt a b) (fun _ _ a b=>ok_ext a b) (fun _ _ b=>ok_join b) (fun _ _ _ _ a b c=>ok_comp a c b) (fun _ a=>t_e a) (fun _ a=>t_not a) (fun _ _ a b=>t_and a b) (fun _ _ a b=>t_or a b) (fun _ _ _ a b=>t_cmp a b) (fun _ a=>it_ex a) (fun _ a=>it_range a) (fun _ a=>it_enum a) (fun _ _ a b=>it_zip a b) es_nil (fun _ _ a b=>es_cons a b) ks_nil (fun _ _ a b=>ks_cons a.1 a.2 b) (fun _ h=>nomatch h) (fun _ a _ h=>Option.some.inj h▸a) (fun _ _ a b=>⟨a,b⟩) e
theorem tok (e:T):TOk X e :=
  T.rec (motive_1:=EOk X) (motive_2:=TOk X) (motive_3:=ItOk X) (motive_4:=EsOk X) (motive_5:=KsOk X) (motive_6:=fun o=>∀ u,o=some u→TOk X u) (motive_7:=fun p=>EOk X p.1∧EOk X p.2)
    ok_c ok_l ok_lc (fun _ _ _ a b=>ok_bin a b) (fun _ a=>ok_neg a) (fun _ _ _ a b=>ok_cmp a b) (fun _ _ _ u a b=>ok_ite u a b) (fun _ _ a=>ok_attr a) (fun _ _ a b=>ok_sub a b) (fun _ _ a b=>ok_upto a b) (fun _ a=>ok_rev a) (fun _ a=>ok_tup a) (fun _ a=>ok_lst a) (fun _ a=>ok_dct a) (fun _ _ a=>ok_fn Y.hD Y.fo a) (fun _ _ _ a b=>ok_me Y.hD Y.fo a b) (fun _ _ a=>ok_new Y.hD Y.fo a) (fun _ _ a=>ok_var Y.hD Y.fo Y.co a) (fun _ a=>ok_len a) (fun _ a=>ok_tuple a) (fun _ a=>ok_toInt a) (fun _ a=>ok_toBytes a) (fun _ a=>ok_ord a) (fun _ a=>ok_sorted a) (fun _ a=>ok_max a) (fun _ a=>ok_str a) (fun _ a=>ok_repr a) (fun _ a=>ok_listOf a) (fun _ a=>ok_listRange a) (fun _ _ a b=>ok_app a b) (fun _ a=>ok_pop a) (fun _ _ a b=>ok_popAt a b) (fun _ _ a b=>ok_ext a b) (fun _ _ b=>ok_join b) (fun _ _ _ _ a b c=>ok_comp a c b) (fun _ a=>t_e a) (fun _ a=>t_not a) (fun _ _ a b=>t_and a b) (fun _ _ a b=>t_or a b) (fun _ _ _ a b=>t_cmp a b) (fun _ a=>it_ex a) (fun _ a=>it_range a) (fun _ a=>it_enum a) (fun _ _ a b=>it_zip a b) es_nil (fun _ _ a b=>es_cons a b) ks_nil (fun _ _ a b=>ks_cons a.1 a.2 b) (fun _ h=>nomatch h) (fun _ a _ h=>Option.some.inj h▸a) (fun _ _ a b=>⟨a,b⟩) e
theorem itok (e:It):ItOk X e :=
  It.rec (motive_1:=EOk X) (motive_2:=TOk X) (motive_3:=ItOk X) (motive_4:=EsOk X) (motive_5:=KsOk X) (motive_6:=fun o=>∀ u,o=some u→TOk X u) (motive_7:=fun p=>EOk X p.1∧EOk X p.2)
    ok_c ok_l ok_lc (fun _ _ _ a b=>ok_bin a b) (fun _ a=>ok_neg a) (fun _ _ _ a b=>ok_cmp a b) (fun _ _ _ u a b=>ok_ite u a b) (fun _ _ a=>ok_attr a) (fun _ _ a b=>ok_sub a b) (fun _ _ a b=>ok_upto a b) (fun _ a=>ok_rev a) (fun _ a=>ok_tup a) (fun _ a=>ok_lst a) (fun _ a=>ok_dct a) (fun _ _ a=>ok_fn Y.hD Y.fo a) (fun _ _ _ a b=>ok_me Y.hD Y.fo a b) (fun _ _ a=>ok_new Y.hD Y.fo a) (fun _ _ a=>ok_var Y.hD Y.fo Y.co a) (fun _ a=>ok_len a) (fun _ a=>ok_tuple a) (fun _ a=>ok_toInt a) (fun _ a=>ok_toBytes a) (fun _ a=>ok_ord a) (fun _ a=>ok_sorted a) (fun _ a=>ok_max a) (fun _ a=>ok_str a) (fun _ a=>ok_repr a) (fun _ a=>ok_listOf a) (fun _ a=>ok_listRange a) (fun _ _ a b=>ok_app a b) (fun _ a=>ok_pop a) (fun _ _ a b=>ok_popAt a b) (fun _ _ a b=>ok_ext a b) (fun _ _ b=>ok_join b) (fun _ _ _ _ a b c=>ok_comp a c b) (fun _ a=>t_e a) (fun _ a=>t_not a) (fun _ _ a b=>t_and a b) (fun _ _ a b=>t_or a b) (fun _ _ _ a b=>t_cmp a b) (fun _ a=>it_ex a) (fun _ a=>it_range a) (fun _ a=>it_enum a) (fun _ _ a b=>it_zip a b) es_nil (fun _ _ a b=>es_cons a b) ks_nil (fun _ _ a b=>ks_cons a.1 a.2 b) (fun _ h=>nomatch h) (fun _ a _ h=>Option.some.inj h▸a) (fun _ _ a b=>⟨a,b⟩) e
theorem tgok (u:Tg):TgOk X u :=
  Tg.rec (motive_1:=TgOk X) (motive_2:=TgsOk X) tg_v tg_vc (fun _ a=>tg_tup a) (fun _ _=>tg_at (eok Y _)) (fun _ _=>tg_sb (eok Y _) (eok Y _)) tgs_nil (fun _ _ a b=>tgs_cons a b) u
end
inductive Sq where
  | asg | aug | ex | ite | for | whl | ret | cont | fdef | oth
  deriving DecidableEq
noncomputable abbrev PayS:Sq→Type
  | .asg=>List Expr × Expr × Pos
  | .aug=>Expr × Operator × Expr × Pos
  | .ex=>Expr × Pos
  | .ite=>Expr × List Stmt × List Stmt × Pos
  | .for=>Expr × Expr × List Stmt × List Stmt × Pos
  | .whl=>Expr × List Stmt × List Stmt × Pos
  | .ret=>Option Expr × Pos
  | .cont=>Pos
  | .fdef=>PySem.Str × Arguments × List Stmt × List Expr × Option Expr × List TypeParam × Scope × Option Scope × PySem.Str × Pos
  | .oth=>Stmt
noncomputable def Sq.mk:(k:Sq)→PayS k→Stmt
  | .asg,q=>.Assign q.1 q.2.1 q.2.2
  | .aug,q=>.AugAssign q.1 q.2.1 q.2.2.1 q.2.2.2
  | .ex,q=>.Expr q.1 q.2
  | .ite,q=>.If q.1 q.2.1 q.2.2.1 q.2.2.2
  | .for,q=>.For q.1 q.2.1 q.2.2.1 q.2.2.2.1 q.2.2.2.2
  | .whl,q=>.While q.1 q.2.1 q.2.2.1 q.2.2.2
  | .ret,q=>.Return q.1 q.2
  | .cont,q=>.Continue q
  | .fdef,q=>.FunctionDef q.1 q.2.1 q.2.2.1 q.2.2.2.1 q.2.2.2.2.1 q.2.2.2.2.2.1 q.2.2.2.2.2.2.1 q.2.2.2.2.2.2.2.1 q.2.2.2.2.2.2.2.2.1 q.2.2.2.2.2.2.2.2.2
  | .oth,q=>q
noncomputable def shS (e:Stmt):(k:Sq) × PayS k:=match e with
  | .Assign a b c=>⟨.asg,a,b,c⟩
  | .AugAssign a b c d=>⟨.aug,a,b,c,d⟩
  | .Expr a b=>⟨.ex,a,b⟩
  | .If a b c d=>⟨.ite,a,b,c,d⟩
  | .For a b c d e=>⟨.for,a,b,c,d,e⟩
  | .While a b c d=>⟨.whl,a,b,c,d⟩
  | .Return a b=>⟨.ret,a,b⟩
  | .Continue a=>⟨.cont,a⟩
  | .FunctionDef a b c d e f g h i j=>⟨.fdef,a,b,c,d,e,f,g,h,i,j⟩
  | e=>⟨.oth,e⟩
theorem shS_mk (e:Stmt):(shS e).1.mk (shS e).2=e:=by cases e<;>rfl
noncomputable def onS (k:Sq) (e:Stmt) (p:PayS k→Bool):Bool:=if h:(shS e).1=k then p (h▸(shS e).2) else false
theorem onS_elim {k:Sq}{e:Stmt}{p:PayS k→Bool}{C:Stmt→Prop} (h:onS k e p=true) (f:∀ a,p a=true→C (k.mk a)):C e:=by
  unfold onS at h
  by_cases q:(shS e).1=k
  · subst q
    rw [dif_pos rfl] at h
    exact shS_mk e▸f _ h
  · rw [dif_neg q] at h
    exact absurd h Bool.false_ne_true
noncomputable def sStale:PySem.Str:=PySem.Str.ofString "stale"
noncomputable def sWhole:PySem.Str:=PySem.Str.ofString "whole"
noncomputable def sMarks:PySem.Str:=PySem.Str.ofString "marks"
noncomputable def sIndex:PySem.Str:=PySem.Str.ofString "index"
noncomputable def sPassed:PySem.Str:=PySem.Str.ofString "passed"
noncomputable def swQ (c:CkD) (q:Pay .lc) (r:Pay .name):Bool:=(c.names.lookup r.1 == some .local) && (r.2.line == q.2.2.2.line) && !(q.2.2.1.names.any fun p=>p.1 == r.1 && (p.2 == .local || p.2 == .cell))
noncomputable def isStar (e:Expr):Bool:=match e with
  | .Starred ..=>true
  | _=>false
noncomputable def swapName (c:CkD) (line:Nat) (e:Expr):Option PySem.Str:=match e with
  | .Name id pos=>if c.names.lookup id == some .local && pos.line == line then some id else none
  | _=>none
noncomputable def swNames (c:CkD) (ts:List Expr):List PySem.Str:=ts.filterMap (swapName c ((ts.head?.map (·.pos.line)).getD 0))
noncomputable def sw1 (ts vs:List Expr):Bool:=!(ts.length == 2 || ts.length == 3) || vs.length != ts.length
noncomputable def sw3 (c:CkD) (ts:List Expr):Bool:=(swNames c ts).length != ts.length || (swNames c ts).eraseDups.length != (swNames c ts).length
noncomputable def slot0 (t:Tg):Nat:=match t with
  | .v k=>k
  | _=>0
noncomputable def isV (t:Tg):Bool:=match t with
  | .v _=>true
  | _=>false
noncomputable def onTups (t:Tg) (p:List Tg→Bool):Bool:=match t with
  | .tup ts=>p ts
  | _=>false
noncomputable def isComp (e:E):Bool:=match e with
  | .comp ..=>true
  | _=>false
noncomputable def sw2 (c:CkD) (ts vs:List Expr):Bool:=sw1 ts vs || (vs.any isStar || sw3 c ts)
noncomputable def swapTT (c:CkD) (t:Tg) (ts vs:List Expr):Bool:=sw2 c ts vs || (!vs.all (foldedForSure 8) && (!vs.all (constantsAlone 8) && onTups t fun us=>us.all isV && (decide (us.map slot0).Nodup && decide ((us.map slot0).map (c.sl[·]?)=(swNames c ts).map fun n=>some (n,Pk.loc)))))
noncomputable def asgOk (c:CkD) (t:Tg) (e:E) (x v:Expr):Bool:=(isComp e && on .lc v fun _=>on .name x fun _=>true) ||
  decide ((sh v).1≠.oth∧(sh v).1≠.lc) && ((decide ((sh x).1≠.oth∧(sh x).1≠.tup∧(sh x).1≠.lst) || (decide ((sh x).1 = .tup) && decide ((sh v).1≠.tup))) || on .tup x fun q=>on .tup v fun r=>swapTT c t q.1 r.1)
noncomputable def plainPar (p:Arguments):Bool:=p.posonlyargs.isEmpty && (p.vararg.isNone && (p.kwonlyargs.isEmpty && (p.kw_defaults.isEmpty && (p.kwarg.isNone && p.args.all fun a=>a.annotation.isNone))))
noncomputable def scopeOk (sc:Scope):Bool:=(sc.kind == .function) && (!sc.isGenerator && (!sc.isCoroutine && decide ((sc.names.map (·.1)).Nodup)))
noncomputable def pasE:E:=match b_passed with
  | [.ret e]=>e
  | _=>.c .none
noncomputable def pasSl:Sl:=[(sMarks,.loc),(sIndex,.loc),(sStale,.free),(sWhole,.free)]
noncomputable def cloParts (K:Frag) (p:Arguments) (body:List Stmt) (sc:Scope):Bool:=plainPar p && (p.defaults.isEmpty && (decide (p.args.map (·.arg)=[sMarks,sIndex]) && (scopeOk sc && ((sc.names.lookup sMarks == some .local) && ((sc.names.lookup sIndex == some .local) &&
  ((sc.names.lookup sStale == some .free) && ((sc.names.lookup sWhole == some .free) && (sc.names.all (fun q=>q.2 != .cell && (q.2 != .free || (q.1 == sStale || q.1 == sWhole))) && onOne body fun b=>onS .ret b fun q=>onSome q.1 fun v=>chkE K ⟨sc.names,pasSl,0⟩ pasE v))))))))
noncomputable def chkDef (K:Frag) (c:CkD) (k:Nat) (cells:List Nat) (q:PayS .fdef):Bool:=onTwo cells fun a b =>
  (q.1 == sPassed) && ((q.2.2.2.2.2.2.2.2.1 == sPassed) && ((q.2.2.2.1.isEmpty && (q.2.2.2.2.1.isNone && (q.2.2.2.2.2.1.isEmpty && q.2.2.2.2.2.2.2.1.isNone))) && (decide (c.sl[k]?=some (sPassed,Pk.loc)) && (decide (c.sl[a]?=some (sStale,Pk.cel)) && (decide (c.sl[b]?=some (sWhole,Pk.cel)) &&
    (decide (q.2.2.2.2.2.2.2.2.2.line=pasL) && (decide (q.2.2.2.2.2.2.2.2.2.col=pasC) && ((c.names.lookup sStale == some .cell) && cloParts K q.2.1 q.2.2.1 q.2.2.2.2.2.2.1))))))))
noncomputable def isNoneE (e:E):Bool:=match e with
  | .c .none=>true
  | _=>false
theorem isNoneE_elim {e:E}{C:E→Prop} (h:isNoneE e=true) (f:C (.c .none)):C e:=by
  cases e with
  | c v=>cases v with
    | none=>exact f
    | _=>exact absurd h Bool.false_ne_true
  | _=>exact absurd h Bool.false_ne_true
mutual
noncomputable def chkS (K:Frag) (c:CkD):S→Stmt→Bool
  | .asg t e,x=>onS .asg x fun q=>onOne q.1 fun x=>chkTg K c t x && (chkE K c e q.2.1 && asgOk c t e x q.2.1)
  | .aug o f op e,x=>onS .aug x fun q=>decide (op = .add) && (decide (q.2.1=Operator.Add) && on .attr q.1 fun r=>(r.2.1 == f.str) && (chkE K c o r.1 && chkE K c e q.2.2.1))
  | .ex e,x=>onS .ex x fun q=>(on .call q.1 fun _=>true) && chkE K c e q.1
  | .ite t a b,x=>onS .ite x fun q=>chkT K c t q.1 && (chkSs K c a q.2.1 && chkSs K c b q.2.2.1)
  | .for t it b,x=>onS .for x fun q=>q.2.2.2.1.isEmpty && (chkTg K c t q.1 && (chkIt K c it q.2.1 && ((itPlain it || isTupleT q.1) && chkSs K c b q.2.2.1)))
  | .while t b,x=>onS .whl x fun q=>q.2.2.1.isEmpty && (chkT K c t q.1 && chkSs K c b q.2.1)
  | .ret e,x=>onS .ret x fun q=>(onSome q.1 fun v=>chkE K c e v) || (q.1.isNone && isNoneE e)
  | .cont,x=>onS .cont x fun _=>true
  | .defc k cells,x=>onS .fdef x fun q=>chkDef K c k cells q
  | .stuck,_=>true
termination_by structural s=>s
noncomputable def chkSs (K:Frag) (c:CkD):List S→List Stmt→Bool
  | [],xs=>xs.isEmpty
  | s :: r,xs=>(match xs with | x :: xs=>chkS K c s x && chkSs K c r xs | []=>false)
termination_by structural ss=>ss
end
noncomputable def Aim {G:Ctx} (env:Env) (sl:Sl) (t:St G) (N:Loc→AH→Prop) (R:V→AH→Prop) (Ct:Loc→AH→Prop) (Q:PySem.Flow→Shared→Prop):Prop :=
  ToL (Own env) env sl t N (fun _=>Q .next)∧(∀ t' v x,Step (Own env) t t'→R v t'.H→RV t' v x→Q (.ret x) t'.s)∧ToL (Own env) env sl t Ct (fun _=>Q .cont)
structure OnF (X:Cx) (p:Pt) (loc:Loc) (t:St X.G):Prop where
  on:On X p loc t
  live:∀ n a,p.env.cells.lookup n=some a→∃ o,t.h.get? a=some o
  dfc:p.c.names.lookup sStale=some .cell→p.env.code = .ref tabC∧p.env.qual=pasO
section
variable (X:Cx)
noncomputable def SOk (st:S):Prop:=∀ (p:Pt) (x:Stmt) (loc:Loc) (t:St X.G) (N:Loc→AH→Prop) (R:V→AH→Prop) (Ct:Loc→AH→Prop) (Q:PySem.Flow→Shared→Prop),
  chkS X.Kf p.c st x=true→OnF X p loc t→evS X.O st loc t.H N R Ct→Aim p.env p.c.sl t N R Ct Q→wpAny (model pw X.G.w) p.A (exec x p.env) Q p.E t.s
noncomputable def SsOk (ss:List S):Prop:=∀ (p:Pt) (xs:List Stmt) (loc:Loc) (t:St X.G) (N:Loc→AH→Prop) (R:V→AH→Prop) (Ct:Loc→AH→Prop) (Q:PySem.Flow→Shared→Prop),
  chkSs X.Kf p.c ss xs=true→OnF X p loc t→evSs X.O ss loc t.H N R Ct→Aim p.env p.c.sl t N R Ct Q→wpAny (model pw X.G.w) p.A (execs xs p.env) Q p.E t.s
end
section
variable {X:Cx}{t t':St X.G}{p:Pt}{loc loc':Loc}{own:Addr→Prop}{N Ct:Loc→AH→Prop}{R:V→AH→Prop}{Q:PySem.Flow→Shared→Prop}
theorem OnF.step (o:OnF X p loc t) (st:Step own t t') (F:FR p.env p.c.sl loc' t'):OnF X p loc' t':=⟨o.on.set F,fun n a m=>(o.live n a m).elim fun x e=>st.alive a x e,o.dfc⟩
theorem OnF.step0 (o:OnF X p loc t) (st:Step none' t t'):OnF X p loc t':=o.step st (o.on.fr.step st)
theorem OnF.ownLive (o:OnF X p loc t) (a:Addr) (w:Own p.env a):∃ x,t.h.get? a=some x :=
  w.elim (fun w=>o.on.fr.slots.elim fun _ h=>(Ns.get h.1).imp fun _ e=>w▸e.1) fun w=>w.elim fun n w=>o.live n a w
theorem Aim.after {env:Env}{sl:Sl} (st:Step (Own env) t t') (q:Aim env sl t N R Ct Q):Aim env sl t' N R Ct Q:=⟨q.1.after st,fun t'' v x st'=>q.2.1 t'' v x (st.trans st'),q.2.2.after st⟩
theorem drop_plain {f:Expr}{xs:List Expr}{kw:List Keyword}{pos p0:Pos}{v:V}{x:Value} (r:RV t v x) (h:plainV v=true):dropValue (.Call f xs kw p0) pos x=pure .next :=
  have no:∀ {v x},plainV v=false→plainV v=true→dropValue (.Call f xs kw p0) pos x=pure .next:=fun a b=>absurd (a.symm.trans b) Bool.false_ne_true
  VRel.casesOn (motive_1:=fun v x _=>plainV v=true→dropValue (.Call f xs kw p0) pos x=pure .next) r (fun _=>rfl) (fun _ _=>rfl) (fun _ _ _=>rfl) (fun _ _ _=>rfl) (fun _ _ _=>rfl) (fun _ _ _=>no rfl) (fun _ _ _ _=>no rfl) (fun _=>no rfl) (fun _ _ _=>no rfl) (fun _=>no rfl) (fun _=>no rfl) h
theorem s_ex {e:E} (he:EOk X e):SOk X (.ex e):=by
  intro p x loc t N R Ct Q h o ev hq
  have h:onS .ex x (fun q=>(Mine.on .call q.1 fun _=>true) && chkE X.Kf p.c e q.1)=true:=h
  apply onS_elim h;intro q g
  refine and2 g fun g1 g2=>?_
  revert g2
  refine on_elim (C:=fun v=>chkE X.Kf p.c e v=true→wpAny _ _ (exec (.Expr v q.2) p.env) _ _ _) g1 fun c _ g2=>?_
  show wpAny _ _ (exec (.Expr (.Call c.1 c.2.1 c.2.2.1 c.2.2.2) q.2) p.env) _ _ _
  rw [arm_exec_Expr]
  refine wpAny_bind (wpAny_standAt ?_)
  have hi:interactive p.env=false:=by unfold interactive;rw [o.on.fr.ok.kind];rfl
  rw [hi,if_neg Bool.false_ne_true]
  refine wpAny_bind (m:=swapsWith (.Call c.1 c.2.1 c.2.2.1 c.2.2.2) none q.2.line p.env) (wpAny_pure (a:=false) ?_)
  rw [if_neg Bool.false_ne_true]
  refine wpAny_bind (he p _ loc t _ _ g2 o.on ev fun t₁ v va st₁ e r₁=>?_)
  rw [drop_plain r₁ e.1]
  exact wpAny_pure (hq.1 t₁ loc st₁.any e.2 (o.on.fr.step st₁))
theorem s_ret {e:E} (he:EOk X e):SOk X (.ret e):=by
  intro p x loc t N R Ct Q h o ev hq
  have h:onS .ret x (fun q=>(onSome q.1 fun v=>chkE X.Kf p.c e v) || (q.1.isNone && isNoneE e))=true:=h
  apply onS_elim h;intro q g
  refine (bO g).elim (fun g=>some_elim (C:=fun v=>wpAny _ _ (exec (.Return v q.2) p.env) _ _ _) g fun v g=>?_) fun g=>and2 g fun g1 g2=>none_elim (C:=fun v=>wpAny _ _ (exec (.Return v q.2) p.env) _ _ _) g1 ?_
  · exact wpAny_Return_some (he p v loc t _ _ g o.on ev fun t₁ v va st₁ e r₁=>hq.2.1 t₁ v va st₁.any e r₁)
  · exact wpAny_Return_none (isNoneE_elim (C:=fun e=>evE X.O e loc t.H R→Q (.ret .none) t.s) g2 (fun ev=>hq.2.1 t _ _ .refl ev .none) ev)
theorem s_cont:SOk X .cont:=by
  intro p x loc t N R Ct Q h o ev hq
  have h:onS .cont x (fun _=>true)=true:=h
  apply onS_elim h;intro q g
  exact wpAny_Continue (hq.2.2 t loc .refl ev o.on.fr)
theorem s_stuck:SOk X .stuck:=fun p x loc t N R Ct Q h o ev hq=>False.elim ev
theorem s_ite {u:T}{a b:List S} (ht:TOk X u) (ha:SsOk X a) (hb:SsOk X b):SOk X (.ite u a b):=by
  intro p x loc t N R Ct Q h o ev hq
  have h:onS .ite x (fun q=>chkT X.Kf p.c u q.1 && (chkSs X.Kf p.c a q.2.1 && chkSs X.Kf p.c b q.2.2.1))=true:=h
  apply onS_elim h;intro q g
  refine and2 g fun g1 g=>and2 g fun g2 g3=>wpAny_If (ht p _ loc t _ _ g1 o.on ev fun t₁ r r' st₁ e hr=>?_)
  obtain rfl:r=r':=hr
  cases r with
  | true=>exact ha p _ loc t₁ _ _ _ _ g2 (o.step0 st₁) e (hq.after st₁.any)
  | false=>exact hb p _ loc t₁ _ _ _ _ g3 (o.step0 st₁) e (hq.after st₁.any)
theorem s_aug {a:E}{f:Fd}{op:Op}{e:E} (ho:EOk X a) (he:EOk X e):SOk X (.aug a f op e):=by
  intro p x loc t N R Ct Q h o ev hq
  have h:onS .aug x (fun q=>decide (op = .add) && (decide (q.2.1=Operator.Add) && Mine.on .attr q.1 fun r=>(r.2.1 == f.str) && (chkE X.Kf p.c a r.1 && chkE X.Kf p.c e q.2.2.1)))=true:=h
  apply onS_elim h;intro q g
  refine and2 g fun g1 g=>and2 g fun g2 g=>dec_elim (C:=fun o=>wpAny _ _ (exec (.AugAssign q.1 o q.2.2.1 q.2.2.2) p.env) _ _ _) g2 (on_elim (C:=fun x=>wpAny _ _ (exec (.AugAssign x .Add q.2.2.1 q.2.2.2) p.env) _ _ _) g fun r g=>and2 g fun g3 g=>and2 g fun g4 g5=>?_)
  refine beq_elim (C:=fun n=>wpAny _ _ (exec (.AugAssign (.Attribute r.1 n r.2.2) .Add q.2.2.1 q.2.2.2) p.env) _ _ _) g3 ?_
  rw [arm_exec_AugAssign_2]
  refine wpAny_bind (wpAny_standAt (wpAny_bind (ho p _ loc t _ _ g4 o.on ev fun t₁ u va st₁ e₁ r₁=>?_)))
  refine wpAny_bind (wpAny_holding (wpAny_bind (wpAny_standAt (wpAny_bind (getF_ok X.facts r₁ e₁ fun t₂ v vb st₂ e₂ r₂=>?_)))))
  refine wpAny_bind (wpAny_holding (he p _ loc t₂ _ _ g5 (o.on.step (st₁.trans st₂)) e₂ fun t₃ y vc st₃ e₃ r₃=>wpAny_bind (wpAny_standAt (wpAny_operating ?_))))
  apply (r₂.later st₃.later).onInt e₃;intro i k e₃
  apply r₃.onInt e₃;intro j k' e₃
  have e₃:=dec_elim (C:=fun op=>optK (intOp op i j) fun r=>setF u f (.int r) t₃.H fun H=>N loc H) (of_decide_eq_true g1▸decide_eq_true rfl:decide (Op.add=op)=true) e₃
  have st:=st₁.trans (st₂.trans st₃)
  refine wpAny_iadd_int (wpAny_bind (wpAny_standAt (wpAny_bind (wpAny_holding ?_))))
  have st₄:=t₃.grown (own:=none') (fun _ _ q=>q) (t₃.s.toks+1)
  exact setF_ok (t:=t₃.grow (fun _ _ q=>q) (t₃.s.toks+1)) (K:=fun H=>N loc H) X.facts (r₁.later (st₂.trans st₃).later) (.int _ _) (show setF u f (.int (i+j)) t₃.H fun H=>N loc H from e₃) fun t₅ _ _ st₅ e₅ _ =>
    wpAny_bind (wpAny_release (wpAny_pure (hq.1 t₅ loc ((st.trans st₄).trans st₅).any e₅ (o.on.fr.step ((st.trans st₄).trans st₅)))))
theorem ss_nil:SsOk X []:=fun p xs loc t N R Ct Q h o ev hq=>empty_elim (C:=fun xs=>wpAny _ _ (execs xs p.env) _ _ _) h (wpAny_execs_nil (hq.1 t loc .refl ev o.on.fr))
theorem ss_cons {st:S}{r:List S} (hs:SOk X st) (hr:SsOk X r):SsOk X (st :: r):=by
  intro p xs loc t N R Ct Q h o ev hq
  cases xs with
  | nil=>exact absurd h Bool.false_ne_true
  | cons x xs=>exact and2 h fun h1 h2=>wpAny_execs_cons (hs p x loc t _ _ _ _ h1 o ev
      ⟨fun t₁ loc₁ st₁ e F=>hr p xs loc₁ t₁ _ _ _ _ h2 (o.step st₁ F) e (hq.after st₁),fun t₁ v x st₁ e r=>hq.2.1 t₁ v x st₁ e r,fun t₁ loc₁ st₁ e F=>hq.2.2 t₁ loc₁ st₁ e F⟩)
end
theorem blk_fn {env:Env} (hk:env.scope.kind = .function):env.blockKind = .function:=by unfold Env.blockKind;rw [hk];rfl
theorem sww_mk {env:Env}{x:Expr}{n:Nat}:∀ {k:Sp}{q:Pay k},k≠.oth∧k≠.lc→swapsWith (k.mk q) (some x) n env=pure false
  | .name,_,_ | .const,_,_ | .bin,_,_ | .un,_,_ | .cmp,_,_ | .ife,_,_ | .attr,_,_ | .sub,_,_ | .slice,_,_ | .tup,_,_ | .lst,_,_ | .dct,_,_ | .bool,_,_ | .call,_,_=>rfl
  | .lc,_,h=>absurd rfl h.2
  | .oth,_,h=>absurd rfl h.1
theorem sws_mk {env:Env}{v:Expr}:∀ {k:Sp}{q:Pay k},k≠.oth∧k≠.tup∧k≠.lst→swappedStores [k.mk q] v env=pure none
  | .name,_,_ | .const,_,_ | .bin,_,_ | .un,_,_ | .cmp,_,_ | .ife,_,_ | .attr,_,_ | .sub,_,_ | .slice,_,_ | .lc,_,_ | .dct,_,_ | .bool,_,_ | .call,_,_=>rfl
  | .tup,_,h=>absurd rfl h.2.1
  | .lst,_,h=>absurd rfl h.2.2
  | .oth,_,h=>absurd rfl h.1
theorem swv_mk {env:Env}{a:List Expr}{b:Nat}{p:Pos}:∀ {k:Sp}{q:Pay k},k≠.oth∧k≠.lc→k≠.tup→swappedStores [.Tuple a b p] (k.mk q) env=pure none
  | .name,_,_,_ | .const,_,_,_ | .bin,_,_,_ | .un,_,_,_ | .cmp,_,_,_ | .ife,_,_,_ | .attr,_,_,_ | .sub,_,_,_ | .slice,_,_,_ | .lst,_,_,_ | .dct,_,_,_ | .bool,_,_,_ | .call,_,_,_=>rfl
  | .tup,_,_,h=>absurd rfl h
  | .lc,_,h,_=>absurd rfl h.2
  | .oth,_,h,_=>absurd rfl h.1
theorem swap_chain {α:Type}{a b c d e:Bool}{N M S:α} (h:((a || (b || c)) || (!d && !e))=true) :
    (if a=true then N else if b=true then N else if c=true then N else if d=true then N else if e=true then M else S)=if (a || (b || c))=true then N else S:=by
  cases a with
  | true=>rfl
  | false=>cases b with
    | true=>rfl
    | false=>cases c with
      | true=>rfl
      | false=>cases d with
        | true=>exact absurd h Bool.false_ne_true
        | false=>cases e with
          | true=>exact absurd h Bool.false_ne_true
          | false=>rfl
theorem sw_core {env:Env}{c:CkD}{ts vs:List Expr} (hb:env.blockKind = .function) (f:Expr→Option PySem.Str) (star:Expr→Bool) (hf:∀ x,f x=swapName c ((ts.head?.map (·.pos.line)).getD 0) x) (hs:∀ x,star x=isStar x)
    (h:(sw2 c ts vs || (!vs.all (foldedForSure 8) && !vs.all (constantsAlone 8)))=true) (M:Sem (Option (List PySem.Str))) :
    (if (!(ts.length == 2 || ts.length == 3) || vs.length != ts.length || env.blockKind != ScopeKind.function)=true then pure none else
      if vs.any star=true then pure none else
      if ((ts.filterMap f).length != ts.length || (ts.filterMap f).eraseDups.length != (ts.filterMap f).length)=true then pure none else
      if vs.all (foldedForSure 8)=true then pure none else
      if vs.all (constantsAlone 8)=true then M else pure (some (ts.filterMap f)))=if sw2 c ts vs=true then pure none else pure (some (swNames c ts)):=by
  obtain rfl:f=swapName c ((ts.head?.map (·.pos.line)).getD 0):=funext hf
  obtain rfl:star=isStar:=funext hs
  rw [hb,show (ScopeKind.function != ScopeKind.function)=false from rfl,Bool.or_false]
  exact swap_chain h
theorem sw_tt {env:Env}{c:CkD}{ts vs:List Expr}{k k':Nat}{p p':Pos} (hk:env.scope.kind = .function) (hn:env.scope.names=c.names) (h:(sw2 c ts vs || (!vs.all (foldedForSure 8) && !vs.all (constantsAlone 8)))=true) :
    swappedStores [.Tuple ts k p] (.Tuple vs k' p') env=if sw2 c ts vs=true then pure none else pure (some (swNames c ts)):=by
  refine sw_core (blk_fn hk) _ _ (fun x=>?_) (fun x=>?_) h _
  · cases x<;>first | rfl | (unfold swapName Env.kindOf;rw [hn])
  · cases x<;>rfl
noncomputable def setBack:List Nat→List V→Loc→Loc
  | k :: l,vs,loc=>(match vs with | v :: vs=>(setBack l vs loc).set k (some v) | []=>loc)
  | [],_,loc=>loc
theorem setBack_set {l:List Nat}:∀ {vs:List V}{k:Nat}{x:Option V}{loc:Loc},k∉l→setBack l vs (loc.set k x)=(setBack l vs loc).set k x:=by
  induction l with
  | nil=>exact fun _=>rfl
  | cons j l ih =>
    intro vs k x loc h
    cases vs with
    | nil=>rfl
    | cons v vs=>exact (congrArg (fun l=>List.set l j (some v)) (ih fun m=>h (List.mem_cons_of_mem _ m))).trans (List.set_comm _ _ fun q=>h (q▸List.mem_cons_self ..))
theorem allV_eq {ts:List Tg} (h:ts.all isV=true):ts=(ts.map slot0).map Tg.v:=by
  induction ts with
  | nil=>rfl
  | cons t ts ih =>
    have h:(isV t && ts.all isV)=true:=h
    refine and2 h fun h1 h2=>?_
    rw [List.map_cons,List.map_cons,← ih h2]
    cases t with
    | v k=>rfl
    | _=>exact absurd h1 Bool.false_ne_true
theorem forw {O:Orc}{N:Loc→AH→Prop}{H:AH}{l:List Nat}:∀ {vs:List V}{loc:Loc},l.Nodup→asgs O (l.map Tg.v) vs loc H N→N (setBack l vs loc) H:=by
  induction l with
  | nil=>exact fun _ e=>e
  | cons k l ih =>
    intro vs loc nd e
    have nd:=List.nodup_cons.mp nd
    cases vs with
    | nil=>exact False.elim e
    | cons v vs=>exact optK.elim e fun u _ e=>show N ((setBack l vs loc).set k (some v)) H from setBack_set nd.1▸ih (loc:=loc.set k (some v)) nd.2 e.2
section
variable {G:Ctx}{A:Around}{E₀:Value→Shared→Prop}{env:Env}{sl:Sl}
theorem back_ok {l:List Nat}:∀ {names:List PySem.Str}{vs:List V}{us:List Value}{loc:Loc}{t:St G}{F:List (Value→Sem Unit)}{Y:List Value}{N:Loc→AH→Prop}{Q:Unit→Shared→Prop},l.map (sl[·]?)=names.map (fun n=>some (n,Pk.loc))→l.length=vs.length→RVs t vs us→FR env sl loc t→N (setBack l vs loc) t.H →
    ToL (Own env) env sl t N (fun _=>wpAny (model pw G.w) A (assignInOrder F Y) Q E₀)→wpAny (model pw G.w) A (assignInOrder ((names.map fun n=>bindName env n).reverse++F) (us.reverse++Y)) Q E₀ t.s:=by
  induction l with
  | nil =>
    intro names vs us loc t F Y N Q h hl r fr e hq
    obtain rfl:=List.eq_nil_of_length_eq_zero hl.symm
    obtain rfl:=List.map_eq_nil_iff.mp h.symm
    exact r.none (C:=fun us=>wpAny _ _ (assignInOrder _ (us.reverse++Y)) _ _ _) (hq t loc .refl e fr)
  | cons k l ih =>
    intro names vs us loc t F Y N Q h hl r fr e hq
    cases names with
    | nil=>exact nomatch h
    | cons n names=>cases vs with
      | nil=>exact nomatch hl
      | cons v vs =>
        have h:=List.cons.inj h
        refine r.head (C:=fun us=>wpAny _ _ (assignInOrder _ (us.reverse++Y)) _ _ _) fun u us r1 r2=>?_
        rw [List.map_cons,List.reverse_cons,List.append_assoc,List.reverse_cons,List.append_assoc]
        exact ih (N:=fun loc H=>N (loc.set k (some v)) H) h.2 (Nat.succ.inj hl) r2 fr e fun t₁ loc₁ st₁ e₁ F₁ =>
          wpAny_bind (m:=holding Y (bindName env n u)) (wpAny_holding (wpAny_bindName (store_local F₁ h.1 (r1.later st₁.later) e₁ ((hq.after st₁).mono fun _ h=>.inl h))))
end
section
variable {X:Cx}{t:St X.G}{p:Pt}{loc:Loc}{N Ct:Loc→AH→Prop}{R:V→AH→Prop}{Q:PySem.Flow→Shared→Prop}
theorem sww_lc {q:Pay .lc}{r:Pay .name}{n:Nat}{env:Env}{c:CkD} (hk:env.scope.kind = .function) (hn:env.scope.names=c.names):swapsWith (Sp.mk .lc q) (some (Sp.mk .name r)) n env=pure (swQ c q r):=by
  show (do return env.blockKind == .function && env.kindOf r.1 == some .local && r.2.line == q.2.2.2.line && !(q.2.2.1.names.any fun (n,k)=>n == r.1 && (k == .local || k == .cell)):Sem Bool)=_
  rw [blk_fn hk]
  unfold Env.kindOf swQ
  rw [hn]
  rfl
theorem asg_start {x v:Expr}{pos:Pos}{b:Bool} (hk:known x=true) (w1:swapsWith v (some x) pos.line p.env=pure b)
    (h:wpAny (model pw X.G.w) p.A (if b=true then do evalThenUse v p.env fun v=>assignAll v [assign x p.env];pure .next
      else do let u ← eval v p.env;assignStores p.env u (← swappedStores [x] v p.env) [assign x p.env]) Q p.E t.s):wpAny (model pw X.G.w) p.A (exec (.Assign [x] v pos) p.env) Q p.E t.s:=by
  rw [arm_exec_Assign,each_known hk]
  refine wpAny_bind (wpAny_standAt (wpAny_bind (m:=swapsWith v (some x) pos.line p.env) ?_))
  rw [w1]
  exact wpAny_pure h
theorem asg_plain {u:Tg}{e:E}{x v:Expr} (hu:TgOk X u) (he:EOk X e) (h1:chkTg X.Kf p.c u x=true) (h2:chkE X.Kf p.c e v=true) (on:On X p loc t) (ev:evS X.O (.asg u e) loc t.H N R Ct) (hq:Aim p.env p.c.sl t N R Ct Q) (w2:swappedStores [x] v p.env=pure none) :
    wpAny (model pw X.G.w) p.A (do let u ← eval v p.env;assignStores p.env u (← swappedStores [x] v p.env) [assign x p.env]) Q p.E t.s:=by
  rw [w2]
  exact wpAny_bind (he p v loc t _ _ h2 on ev fun t₁ w va st₁ e₁ r₁=>wpAny_bind (wpAny_pure (wpAny_bind (m:=assign x p.env va) (hu p x loc t₁ w va _ _ h1 (on.step st₁) r₁ e₁ fun t₂ loc₂ st₂ e₂ F₂=>wpAny_pure (hq.1 t₂ loc₂ (st₁.any.trans st₂) e₂ F₂)))))
theorem asg_back {ts:List Tg}{e:E}{x v:Expr}{names:List PySem.Str} (he:EOk X e) (h2:chkE X.Kf p.c e v=true) (on:On X p loc t) (ev:evS X.O (.asg (.tup ts) e) loc t.H N R Ct) (hq:Aim p.env p.c.sl t N R Ct Q) (w2:swappedStores [x] v p.env=pure (some names))
    (ha:ts.all isV=true) (nd:(ts.map slot0).Nodup) (hs:(ts.map slot0).map (p.c.sl[·]?)=names.map fun n=>some (n,Pk.loc)) :
    wpAny (model pw X.G.w) p.A (do let u ← eval v p.env;assignStores p.env u (← swappedStores [x] v p.env) [assign x p.env]) Q p.E t.s:=by
  rw [w2]
  refine wpAny_bind (he p v loc t _ _ h2 on ev fun t₁ w va st₁ e₁ r₁=>wpAny_bind (wpAny_pure ?_))
  apply r₁.onTup e₁;intro vs a us n e₁ gt _ r
  have hl:names.length=us.toArray.size:=by rw [List.size_toArray,← r.len,← e₁.1,← List.length_map (f:=fun n=>some (n,Pk.loc)),← hs,List.length_map,List.length_map]
  refine wpAny_bind (m:=rule "assign.swapped-stores") (wpAny_rule (wpAny_bind (m:=unpackItems (.ref a) names.length none) ?_))
  rw [hl]
  refine wpAny_unpackItems_tuple on.room.handled (tupObj_is gt) fun h' hb=>?_
  have kp:∀ a o,t₁.h.get? a=some o→h'.get? a=some o:=fun a o q=>hb a o (fun z=>nomatch (new_none t₁.h).symm.trans (show t₁.h.get? _=some o from z▸q)) q
  have st:=t₁.grown (own:=none') kp t₁.s.toks
  have b:=back_ok (A:=p.A) (E₀:=p.E) (t:=t₁.grow kp t₁.s.toks) (F:=[]) (Y:=[]) (N:=N) (Q:=fun _ s=>wpAny (model pw X.G.w) p.A (pure .next:Sem PySem.Flow) Q p.E s) hs ((List.length_map (f:=slot0)).trans e₁.1) (st.later.all r) (on.fr.step (st₁.trans st)) (forw nd (allV_eq ha▸e₁.2))
    fun t₂ loc₂ st₂ e₂ F₂=>wpAny_pure (wpAny_pure (hq.1 t₂ loc₂ ((st₁.trans st).any.trans st₂) e₂ F₂))
  rw [List.append_nil,List.append_nil,← List.map_reverse] at b
  exact wpAny_bind b
theorem asg_comp {u:Tg}{elt:E}{own:Nat}{it:It}{cd:Option T}{x:Expr}{q:Pay .lc}{g:Comprehension} (hu:TgOk X u) (helt:EOk X elt) (hcd:∀ t,cd=some t→TOk X t) (hit:ItOk X it) (k:CompChk X.Kf p.c elt own it cd q g) (h1:chkTg X.Kf p.c u x=true) (o:OnF X p loc t) (ev:evS X.O (.asg u (.comp elt own it cd)) loc t.H N R Ct) (hq:Aim p.env p.c.sl t N R Ct Q) :
    wpAny (model pw X.G.w) p.A (do evalThenUse (.ListComp q.1 [g] q.2.2.1 q.2.2.2) p.env fun v=>assignAll v [assign x p.env];pure .next) Q p.E t.s:=by
  rw [arm_evalThenUse_ListComp]
  refine wpAny_bind (wpAny_bind (comp_core helt hcd hit k o.on ev fun t₁ Dl Cl m v st₁ e₁ r₁ hf hns nc=>?_))
  obtain ⟨oC,gC,_⟩:=Ns.get hns
  have hl:∀ a,Own p.env a→a≠Cl:=fun a w z=>(o.ownLive a w).elim fun o e=>nomatch hf.symm.trans (show t.h.get? Cl=some o from z▸e)
  refine hu p x loc t₁ v _ _ _ h1 (o.on.step st₁) r₁ e₁ fun t₂ loc₂ st₂ e₂ F₂=>?_
  have hns₂:=Ns.same hns fun o e=>st₂.keep _ o e nc fun w=>hl _ w rfl
  exact ⟨m,hns₂,fun h' sb=>(drop_frame (st₁.any.trans st₂) hf hns₂ (st₂.alone nc gC) sb).elim fun t₃ z =>
    wpAny_pure (wpAny_pure (z.2.2.1▸hq.1 t₃ loc₂ z.1 (z.2.1▸e₂) (F₂.but z.2.2.2.1 fun a o e n w=>z.2.2.2.2 a o e n (hl a w))))⟩
theorem known_sh {x:Expr} (h:(sh x).1≠.oth):known x=true:=decide_eq_true h
theorem tup_of {e:Expr}{C:Expr→Prop} (h:(sh e).1 = .tup) (f:∀ elts k pos,C (.Tuple elts k pos)):C e:=tup_elim (decide_eq_true h) f
theorem onTups_elim {u:Tg}{f:List Tg→Bool}{C:Tg→Prop} (h:onTups u f=true) (g:∀ ts,f ts=true→C (.tup ts)):C u:=by
  cases u with
  | tup ts=>exact g ts h
  | _=>exact absurd h Bool.false_ne_true
theorem isComp_elim {e:E}{C:E→Prop} (h:isComp e=true) (f:∀ a b c d,C (.comp a b c d)):C e:=by
  cases e with
  | comp a b c d=>exact f a b c d
  | _=>exact absurd h Bool.false_ne_true
theorem if_f {α:Type}{a b:α}:(if false=true then a else b)=b:=rfl
theorem s_asg {D₀:Nat} (Y:Ok X D₀) (u:Tg) (e:E):SOk X (.asg u e):=by
  intro p x loc t N R Ct Q h o ev hq
  have h:onS .asg x (fun q=>onOne q.1 fun x=>chkTg X.Kf p.c u x && (chkE X.Kf p.c e q.2.1 && asgOk p.c u e x q.2.1))=true:=h
  apply onS_elim h;intro q h
  refine one_elim (C:=fun xs=>wpAny _ _ (exec (.Assign xs q.2.1 q.2.2) p.env) _ _ _) h fun x h=>and2 h fun h1 h=>and2 h fun h2 h=>?_
  generalize q.2.1=v at h2 h ⊢
  refine (bO h).elim (fun h=>and2 h fun h3 h=>?_) fun h=>and2 h fun h3 h=>?_
  · revert h1 h2
    refine on_elim (C:=fun v=>_→chkE X.Kf p.c e v=true→wpAny _ _ (exec (.Assign [x] v q.2.2) p.env) _ _ _) h fun a h=>on_elim (C:=fun x=>chkTg X.Kf p.c u x=true→_→wpAny _ _ (exec (.Assign [x] _ q.2.2) p.env) _ _ _) h fun r _ h1 h2=>?_
    refine asg_start rfl (sww_lc o.on.fr.ok.kind o.on.names) ?_
    cases hb:swQ p.c a r with
    | false=>exact asg_plain (tgok Y u) (eok Y e) h1 h2 o.on ev hq rfl
    | true =>
      revert ev
      revert h2
      refine isComp_elim (C:=fun e=>chkE X.Kf p.c e _=true→evS X.O (.asg u e) loc t.H N R Ct→wpAny _ _ _ _ _ _) h3 fun elt own it cd h2 ev=>?_
      exact compChk_of (C:=fun v=>wpAny (model pw X.G.w) p.A (do evalThenUse v p.env fun v=>assignAll v [assign (Sp.mk .name r) p.env];pure PySem.Flow.next) Q p.E t.s) h2 fun q' g k=>asg_comp (tgok Y u) (eok Y elt) (fun t _=>tok Y t) (itok Y it) k h1 o ev hq
  · have h3:=of_decide_eq_true h3
    have w1:∀ n,swapsWith v (some x) n p.env=pure false:=fun n=>sh_mk v▸sww_mk h3
    refine (bO h).elim (fun h=>?_) fun h=>?_
    · have w:known x=true∧swappedStores [x] v p.env=pure none:=(bO h).elim (fun h=>have h:=of_decide_eq_true h;⟨known_sh h.1,(congrArg (swappedStores [·] v p.env) (sh_mk x)).symm.trans (sws_mk h)⟩)
        fun h=>and2 h fun h4 h5=>tup_of (C:=fun x=>known x=true∧swappedStores [x] v p.env=pure none) (of_decide_eq_true h4) fun a b c=>⟨rfl,(congrArg (swappedStores [.Tuple a b c] · p.env) (sh_mk v)).symm.trans (swv_mk h3 (of_decide_eq_true h5))⟩
      exact asg_start w.1 (w1 _) (asg_plain (tgok Y u) (eok Y e) h1 h2 o.on ev hq w.2)
    · revert h1 h2 w1
      refine on_elim (C:=fun x=>chkTg X.Kf p.c u x=true→_→(∀ n,swapsWith _ (some x) n p.env=pure false)→wpAny _ _ (exec (.Assign [x] _ q.2.2) p.env) _ _ _) h fun a h=>on_elim (C:=fun v=>_→chkE X.Kf p.c e v=true→(∀ n,swapsWith v _ n p.env=pure false)→wpAny _ _ (exec (.Assign [_] v q.2.2) p.env) _ _ _) h fun b h h1 h2 w1=>?_
      refine asg_start rfl (w1 _) ?_
      cases hb:sw2 p.c a.1 b.1 with
      | true=>exact asg_plain (tgok Y u) (eok Y e) h1 h2 o.on ev hq ((sw_tt o.on.fr.ok.kind o.on.names (by rw [hb];rfl)).trans (by rw [hb];rfl))
      | false =>
        unfold swapTT at h
        rw [hb] at h
        refine and2 h fun h3 h=>and2 h fun h4 h=>?_
        revert ev
        refine onTups_elim (C:=fun u=>evS X.O (.asg u e) loc t.H N R Ct→wpAny _ _ _ _ _ _) h fun ts h ev=>and2 h fun h5 h=>and2 h fun h6 h7=>?_
        exact asg_back (eok Y e) h2 o.on ev hq ((sw_tt o.on.fr.ok.kind o.on.names (by rw [h3,h4,Bool.or_eq_true_iff];exact .inr rfl)).trans (by rw [hb];rfl)) h5 (of_decide_eq_true h6) (of_decide_eq_true h7)
end
noncomputable def loopQ (Q:PySem.Flow→Shared→Prop) (J:Shared→Prop) (f:PySem.Flow) (s:Shared):Prop:=match f with
  | .next | .cont=>J s
  | .brk=>Q .next s
  | .ret v=>Q (.ret v) s
section
variable {w:World}{A:Around}{E:Value→Shared→Prop}{Q:PySem.Flow→Shared→Prop}{s:Shared}{env:Env}{body:List Stmt}{pos:Pos}
theorem while_rule {test:Expr} (J:Nat→Shared→Prop) (turn:∀ n s,J n s→wpAny (model pw w) A (PySem.isTrue test env (eval test env)) (fun b s₂=>iteB b (wpAny (model pw w) A (execs body env) (loopQ Q fun s=>∃ m,m < n∧J m s) noE s₂) (Q .next s₂)) noE s) (n:Nat) (h:J n s) :
    wpAny (model pw w) A (exec (.While test body [] pos) env) Q E s:=by
  refine wpAny_While (codeAny_whileLoop J (fun n s h=>wpAny_mono (turn n s h) (fun b s₂ h=>?_) fun _ _ h=>h.elim) n h)
  cases b with
  | false=>exact wpAny_execs_nil h
  | true=>exact wpAny_mono h (fun f s₃ h=>by cases f<;>exact h) fun _ _ h=>h.elim
theorem for_rule {target:Expr}{I:Addr} (J:Nat→Shared→Prop) (turn:∀ n s,J n s→wpAny (model pw w) A (pyNext (.ref I)) (nextP w A noE target I (Q .next) fun v s₁=>wpAny (model pw w) A (assign target env v) (fun _ s₂=>wpAny (model pw w) A (execs body env) (loopQ Q fun s=>∃ m,m < n∧J m s) noE s₂) noE s₁) noE s) (n:Nat) (h:J n s) :
    codeAny (model pw w) A (.forLoop target (.ref I) body [] env) (fun r s'=>match r with | .ok f=>Q f s' | .error e=>cameBackBy (model pw w) A env E e s') s:=by
  refine codeAny_forLoop_any J (fun n s h=>wpAny_mono (turn n s h) (fun r s₁ h=>?_) fun _ _ h=>h.elim) n h
  cases r with
  | none=>exact wpAny_execs_nil h
  | some v=>exact wpAny_mono h (fun _ s₂ h=>wpAny_mono h (fun _ s₃ h=>wpAny_mono h (fun f s₃ h=>by cases f<;>exact h) fun _ _ h=>h.elim) fun _ _ h=>h.elim) fun _ _ h=>h.elim
end
section
variable {X:Cx}
noncomputable abbrev Pt.bare (p:Pt):Pt:=⟨p.c,p.A,p.env,noE⟩
theorem OnF.bare {p:Pt}{loc:Loc}{t:St X.G} (o:OnF X p loc t):OnF X p.bare loc t:=⟨⟨o.on.names,o.on.room,o.on.fr⟩,o.live,o.dfc⟩
noncomputable def LoopJ (X:Cx) (t:St X.G) (p:Pt) (J:Nat→Loc→St X.G→Prop) (n:Nat) (s:Shared):Prop:=∃ (t':St X.G) (loc':Loc),t'.s=s∧OnF X p.bare loc' t'∧Step (Own p.env) t t'∧J n loc' t'
theorem loop_body {b:List S} (hb:SsOk X b) {p:Pt}{xs:List Stmt}{loc:Loc}{t₀ t:St X.G}{N:Loc→AH→Prop}{R:V→AH→Prop}{Q:PySem.Flow→Shared→Prop}{J:Nat→Loc→St X.G→Prop}{n:Nat} (h:chkSs X.Kf p.c b xs=true) (o:OnF X p.bare loc t) (st:Step (Own p.env) t₀ t) (e:evSs X.O b loc t.H N R N)
    (hR:∀ t' v x,Step (Own p.env) t₀ t'→R v t'.H→RV t' v x→Q (.ret x) t'.s) (hJ:∀ t' loc',Step (Own p.env) t t'→N loc' t'.H→J n loc' t'):wpAny (model pw X.G.w) p.A (execs xs p.env) (loopQ Q fun s=>∃ m,m < n+1∧LoopJ X t₀ p J m s) noE t.s :=
  have again:ToL (Own p.env) p.env p.c.sl t N (fun _ s=>∃ m,m < n+1∧LoopJ X t₀ p J m s):=fun t' loc' st' e F=>⟨n,Nat.lt_succ_self _,t',loc',rfl,o.step st' F,st.trans st',hJ t' loc' st' e⟩
  hb p.bare xs loc t _ _ _ _ h o e ⟨again,fun t' v x st' e r=>hR t' v x (st.trans st') e r,again⟩
theorem s_while {u:T}{b:List S} (ht:TOk X u) (hb:SsOk X b):SOk X (.while u b):=by
  intro p x loc t N R Ct Q h o ev hq
  have h:onS .whl x (fun q=>q.2.2.1.isEmpty && (chkT X.Kf p.c u q.1 && chkSs X.Kf p.c b q.2.1))=true:=h
  apply onS_elim h;intro q g
  refine and2 g fun g1 g=>and2 g fun g2 g3=>empty_elim (C:=fun e=>wpAny _ _ (exec (.While q.1 q.2.1 e q.2.2.2) p.env) _ _ _) g1 ?_
  refine while_rule (LoopJ X t p fun n loc' t'=>whileTurns (evT X.O u) (evSs X.O b) n loc' t'.H N R) ?_ fuelWhile ⟨t,loc,rfl,o.bare,.refl,ev⟩
  rintro n _ ⟨t₁,loc₁,rfl,o₁,st₁,e⟩
  cases n with
  | zero=>exact False.elim e
  | succ n =>
    refine ht p.bare _ loc₁ t₁ _ _ g2 o₁.on e fun t₂ r r' st₂ e hr=>?_
    obtain rfl:r=r':=hr
    cases r with
    | false=>exact hq.1 t₂ loc₁ (st₁.trans st₂.any) e (o₁.step0 st₂).on.fr
    | true=>exact loop_body hb g3 (o₁.step0 st₂) (st₁.trans st₂.any) e hq.2.1 fun _ _ _ e=>e
theorem s_for {u:Tg}{it:It}{b:List S} (hu:TgOk X u) (hit:ItOk X it) (hb:SsOk X b):SOk X (.for u it b):=by
  intro p x loc t N R Ct Q h o ev hq
  have h:onS .for x (fun q=>q.2.2.2.1.isEmpty && (chkTg X.Kf p.c u q.1 && (chkIt X.Kf p.c it q.2.1 && ((itPlain it || isTupleT q.1) && chkSs X.Kf p.c b q.2.2.1))))=true:=h
  apply onS_elim h;intro q g
  refine and2 g fun g1 g=>and2 g fun g2 g=>and2 g fun g3 g=>and2 g fun g4 g5=>empty_elim (C:=fun e=>wpAny _ _ (exec (.For q.1 q.2.1 q.2.2.1 e q.2.2.2.2) p.env) _ _ _) g1 ?_
  refine wpAny_For (hit p _ loc t _ _ g3 o.on ev fun I i t₁ fp st₁ e₁ pl ia off f0=>?_) (chkIt_fold g3 p.env)
  have noOwn:∀ a,a∈fp→¬ Own p.env a:=fun a m w=>(o.ownLive a w).elim fun _ e=>nomatch (f0 a m).symm.trans e
  refine for_rule (LoopJ X t p fun n loc' t'=>∃ k,ItAt X.G t'.ρ t'.h i k I fp∧Off t' fp∧forTurns i (asg X.O u) (evSs X.O b) n k loc' t'.H N R) ?_ fuelFor ⟨t₁,loc,rfl,(o.step0 st₁).bare,st₁.any,0,ia,off,e₁⟩
  rintro n _ ⟨t₂,loc₂,rfl,o₂,st₂,k,ia₂,off₂,e⟩
  cases n with
  | zero=>exact False.elim e
  | succ n =>
    refine next_ok ia₂ p.A noE q.1 _ _ _ _ o.on.room.handled (Bool.or_eq_true_iff.mpr ((bO g4).imp pl id)) off₂ e ⟨fun e h' tk kk=>?_,fun v x t₃ e st₃ eH r₃ i₃=>?_⟩
    · exact hq.1 (t₂.turn (own:=(·∈fp)) kk (fun a o=>ia₂.fix off₂ a o) tk) loc₂ (ia₂.drop off₂ st₂ f0 kk tk) e (o₂.on.fr.but (t₂.ownSim (own:=(·∈fp)) kk fun a o=>ia₂.fix off₂ a o).1 fun a o e n w=>⟨kk a o e fun m=>noOwn a m w,n⟩)
    · have o₃:=o₂.step st₃ (o₂.on.fr.step' st₃ (fun m=>noOwn _ m (.inl rfl)) fun n c m w=>noOwn c w (.inr ⟨n,m⟩))
      have stt:Step (Own p.env) t t₃:=((st₂.shed (own':=fun a=>Own p.env a∨a∈fp) fun _ _ w _=>.inl w).trans (st₃.shed fun _ _ w _=>.inr w)).shed fun a o w e=>w.elim id fun m=>nomatch (f0 a m).symm.trans e
      have off₃:Off t₃ fp:=⟨fun a m=>(ia₂.nf a m).elim fun o e=>st₃.alone (off₂.rho a m) e.1,off₂.base⟩
      refine hu p.bare _ loc₂ t₃ v x _ _ g2 o₃.on r₃ (eH▸e) fun t₄ loc₄ st₄ e₄ F₄=>?_
      have i₄:=i₃.step st₄ off₃ noOwn
      exact loop_body hb g5 (o₃.step st₄ F₄) (stt.trans st₄) e₄ hq.2.1 fun t₅ loc₅ st₅ e₅=>⟨k+1,(i₄.1.step st₅ i₄.2 noOwn).1,(i₄.1.step st₅ i₄.2 noOwn).2,e₅⟩
end
section
variable {M:Model}{A:Around}{E:Value→Shared→Prop}{s:Shared}{name qual:PySem.Str}{params:Arguments}{body:List Stmt}{scope:Scope}{env:Env}{c P:Addr}{ps:Array Value}{pos:Pos}{firstLine:Nat}{mg:PySem.Str→Option Value}
  {q:PySem.Str × Addr}{r:List (PySem.Str × Addr)}{Q:Value→Shared→Prop}
theorem made_eq:makeFunction name qual params (.stmts body) scope env [] [] [] pos firstLine=makeTail name qual params (.stmts body) scope env .none .none none pos firstLine:=by
  rw [makeFunction_eq,List.zip_nil_right]
  simp only [List.filterMap_nil,List.isEmpty_nil,if_true,pure_bind]
theorem bm_if_false {M:Model}{A:Around}{E:Value→Shared→Prop}{s:Shared}{α:Type}{b:Bool}{x y:Sem α}{Q:α→Shared→Prop} (h:b=false) (hy:wpAny M A y Q E s):wpAny M A (if b=true then x else y) Q E s:=by
  rw [h,if_neg Bool.false_ne_true];exact hy
theorem made_new (hcl:closureFor scope env=pure (q :: r)) (hge0:env.globals=mainGlobals) (hg:s.heap.Ns mainGlobals mg) (hcode:env.code = .ref c) (C:CodeHd s.heap c P) (hP:s.heap.get? P=some (tabObj ps)) (ht:TriplesOk ps.toList)
    (hnf:codeAmong pos ps.toList=none) (hgP:mainGlobals≠P) (hb:s.heap.BuiltinsAt mg P)
    (h:∀ c' ctv doc h' tk,Heap.ExtBut P s.heap h'→@LE.le Nat _ s.heap.objs.size c'→@LT.lt Nat _ c' h'.objs.size→At h' c' (isCode qual)→h'.get? P=some (tabObj (ps++#[rawInt pos.line,rawInt pos.col,.ref c'])) →
      Q (.ref h'.objs.size) { s with heap:=h'.push (fnMade name qual params body scope (q :: r) doc ((mg "__name__").getD .none) c' ctv),toks:=tk }) :
    wpAny M A (makeFunction name qual params (.stmts body) scope env [] [] [] pos firstLine) Q E s:=by
  refine hb.elim fun bm hb=>hb.elim fun ob hb=>?_
  rw [made_eq]
  unfold makeTail
  rw [hcl,hge0]
  refine wpAny_bind (wpAny_pure (bm_if_false rfl (wpAny_bind (m:=newTextTuple _) (wpAny_newTextTuple ?_))))
  have CK:=fun x=>C.keeps fun b o e=>Heap.get?_push_of_some x e
  refine wpAny_bind (wpAny_functionCodeX hcode ((CK _).code (Heap.get?_push_of_some _ hP) ht) ((CK _).tab (Heap.get?_push_of_some _ hP)) hnf fun c' h' tk hx hge hlt _ hrec htb hself=>?_)
  have hcc:At h' c' (isCode qual):=hself.elim fun P' z=>z.2.2.1.elim fun oc z=>z.elim fun vs z=>hrec.elim fun c₂ y=>y.elim fun oc₂ y=>y.elim fun vs₂ y=>y.elim fun t y=>by
    obtain rfl:=Value.ref.inj y.1
    obtain rfl:=Option.some.inj (z.1.symm.trans y.2.1)
    exact ⟨oc,z.1,z.2.1,vs₂,y.2.2.1,t,y.2.2.2⟩
  have hx':Heap.ExtBut P s.heap h':=fun b o hb' e=>hx b o hb' (Heap.get?_push_of_some _ e)
  refine wpAny_bind (wpAny_builtinsFor ((hg.push _).extBut hx hgP) hb.1 hb.2.1 (hx' _ _ hb.2.2.2.1 hb.2.2.2.2.1) hb.2.2.2.2.2.1 hb.2.2.2.2.2.2.1 hb.2.2.2.2.2.2.2 (wpAny_bind (wpAny_nsGet ((hg.push _).extBut hx hgP) ?_)))
  have hge':s.heap.objs.size≤c':=Nat.le_trans (by rw [Heap.size_push];exact Nat.le_succ _) hge
  dsimp only
  cases hdoc:docOf body with
  | none=>exact wpAny_bind (wpAny_pure (wpAny_newObj_type (h c' _ .none h' tk hx' hge' hlt hcc htb.2) (by size_fits)))
  | some d=>exact wpAny_bind (wpAny_mkText (wpAny_newObj_type (h c' _ _ h' _ hx' hge' hlt hcc htb.2) (by size_fits)))
end
theorem annOf_nil (e:Env) {l:List Arg} (h:(l.all fun a=>a.annotation.isNone)=true):annotationsOf l e=[]:=by
  induction l with
  | nil=>rfl
  | cons a r ih =>
    obtain ⟨nm,an,ps⟩:=a
    have h:(an.isNone && r.all fun a=>a.annotation.isNone)=true:=h
    exact and2 h fun h1 h2=>none_elim (C:=fun an=>annotationsOf (⟨nm,an,ps⟩ :: r) e=[]) h1 (ih h2)
structure ParOk (p:Arguments):Prop where
  po:p.posonlyargs=[]
  va:p.vararg=none
  ko:p.kwonlyargs=[]
  kd:p.kw_defaults=[]
  kw:p.kwarg=none
  an:(p.args.all fun a=>a.annotation.isNone)=true
theorem plainPar_ok {p:Arguments} (h:plainPar p=true):ParOk p :=
  ⟨List.isEmpty_iff.mp (andL h),Option.isNone_iff_eq_none.mp (andL (andR h)),List.isEmpty_iff.mp (andL (andR (andR h))),List.isEmpty_iff.mp (andL (andR (andR (andR h)))),Option.isNone_iff_eq_none.mp (andL (andR (andR (andR (andR h))))),(andR (andR (andR (andR (andR h)))))⟩
theorem ParOk.ann {p:Arguments} (h:ParOk p) (e:Env):annTrees p none e=[]:=by
  obtain ⟨po,ar,va,ko,kd,kw,df⟩:=p
  obtain ⟨h1,h2,h3,h4,h5,h6⟩:=h
  dsimp only at h1 h2 h3 h5 h6
  subst h1 h2 h3 h5
  show annotationsOf (ar++[]++[]++[]++[]) e++_=[]
  rw [List.append_nil,List.append_nil,List.append_nil,List.append_nil,annOf_nil e h6]
  rfl
noncomputable def onStmts (b:FuncBody) (p:List Stmt→Bool):Bool:=match b with
  | .stmts b=>p b
  | _=>false
theorem onStmts_elim {b:FuncBody}{p:List Stmt→Bool} (h:onStmts b p=true):∃ x,b = .stmts x∧p x=true:=by
  cases b with
  | stmts x=>exact ⟨x,rfl,h⟩
  | expr _=>exact absurd h Bool.false_ne_true
noncomputable def lookFd (K:Frag) (fd:FuncData):Bool:=onStmts fd.body (fun body=>cloParts K fd.params body fd.scope) && ((fd.globals == mainGlobals) && ((fd.builtins == builtinsNs) && ((fd.defaults == .none) && ((fd.kwdefaults == .none) && (fd.qualname == pasQ)))))
structure Dfs (G:Ctx) (K:Frag):Prop where
  look:G.look=lookFd K
  ns:∃ mg,G.h₀.Ns mainGlobals mg∧G.h₀.BuiltinsAt mg tabA
  hd:CodeHd G.h₀ tabC tabA
theorem tab_ne:tabC≠tabA∧mainGlobals≠tabA:=by decide
theorem Dfs.here {G:Ctx}{K:Frag} (D:Dfs G K) (t:St G):CodeHd t.h tabC tabA∧∃ mg,t.h.Ns mainGlobals mg∧t.h.BuiltinsAt mg tabA :=
  have b:=t.sim.base
  ⟨D.hd.imp fun _=>.imp fun _=>.imp fun _=>.imp fun _=>.imp fun _=>.imp fun _=>.imp fun _=>.imp fun _=>.imp fun _ e=>⟨b _ _ e.1 tab_ne.1,e.2⟩,
    D.ns.imp fun _ e=>⟨e.1.extBut (fun a o n q=>b a o q n) tab_ne.2,e.2.imp fun _=>.imp fun _ e=>⟨e.1,e.2.1,e.2.2.1,e.2.2.2.1,b _ _ e.2.2.2.2.1 e.2.2.2.1,e.2.2.2.2.2⟩⟩⟩
structure CloTx (K:Frag) (p:Arguments) (body:List Stmt) (sc:Scope):Prop where
  par:ParOk p
  df:p.defaults=[]
  args:p.args.map (·.arg)=[sMarks,sIndex]
  kind:sc.kind = .function
  gen:sc.isGenerator=false
  co:sc.isCoroutine=false
  uniq:(sc.names.map (·.1)).Nodup
  marks:sc.names.lookup sMarks=some .local
  index:sc.names.lookup sIndex=some .local
  stale:sc.names.lookup sStale=some .free
  whole:sc.names.lookup sWhole=some .free
  cells:∀ q,q∈sc.names→q.2≠.cell
  free:∀ n,(n,NameKind.free)∈sc.names→n=sStale∨n=sWhole
  body:∃ v pos,body=[.Return (some v) pos]∧chkE K ⟨sc.names,pasSl,0⟩ pasE v=true
theorem cloParts_ok {K:Frag}{p:Arguments}{body:List Stmt}{sc:Scope} (h:cloParts K p body sc=true):CloTx K p body sc :=
  have all:=List.all_eq_true.mp (andL (andR (andR (andR (andR (andR (andR (andR (andR h)))))))))
  ⟨plainPar_ok (andL h),List.isEmpty_iff.mp (andL (andR h)),of_decide_eq_true (andL (andR (andR h))),eq_of_beq (andL (andL (andR (andR (andR h))))),(Bool.not_eq_true' _).mp (andL (andR (andL (andR (andR (andR h)))))),(Bool.not_eq_true' _).mp (andL (andR (andR (andL (andR (andR (andR h))))))),of_decide_eq_true (andR (andR (andR (andL (andR (andR (andR h))))))),eq_of_beq (andL (andR (andR (andR (andR h))))),eq_of_beq (andL (andR (andR (andR (andR (andR h)))))),eq_of_beq (andL (andR (andR (andR (andR (andR (andR h))))))),eq_of_beq (andL (andR (andR (andR (andR (andR (andR (andR h)))))))),
    fun q m=>bne_iff_ne.mp (andL (all q m)),fun n m=>(bO ((bO (andR (all _ m))).resolve_left Bool.false_ne_true)).imp eq_of_beq eq_of_beq,
    one_elim (C:=fun body=>∃ v pos,body=[Stmt.Return (some v) pos]∧chkE K ⟨sc.names,pasSl,0⟩ pasE v=true) (andR (andR (andR (andR (andR (andR (andR (andR (andR h))))))))) fun b h=>onS_elim (C:=fun b=>∃ v pos,[b]=[Stmt.Return (some v) pos]∧chkE K ⟨sc.names,pasSl,0⟩ pasE v=true) h fun q h =>
      some_elim (C:=fun o=>∃ v pos,[Stmt.Return o q.2]=[Stmt.Return (some v) pos]∧chkE K ⟨sc.names,pasSl,0⟩ pasE v=true) h fun v h=>⟨v,q.2,rfl,h⟩⟩
section
variable {X:Cx}{t:St X.G}{p:Pt}{loc:Loc}{N Ct:Loc→AH→Prop}{R:V→AH→Prop}{Q:PySem.Flow→Shared→Prop}
noncomputable abbrev fnObj (fd:FuncData):Obj:={ cls:=.type "function",data:=.func fd }
theorem def_fin {cd:Addr}{fd:FuncData}{k i j:Nat}{h':Heap}{tk:Nat} (o:OnF X p loc t) (good:CloFd fd X.G.look) (cls:All2 (fun i n=>∃ c,t.ρ[i]?=some c∧fd.closure.lookup (PySem.Str.ofString n)=some c) [i,j] ["stale","whole"]) (hc:fd.code = .ref cd) (hqn:fd.qualname=pasQ)
    (hx:∀ b o,b≠tabA→t.h.get? b=some o→h'.get? b=some o) (hsz:@LE.le Nat _ t.h.objs.size h'.objs.size) (kc:At h' cd (isCode pasQ)) (nc:cd∉t.ρ) (kt:h'.get? tabA=some (tabObj #[rawInt pasL,rawInt pasC,.ref cd])) (h0:t.ρ[0]?=some tabA) (hk:p.c.sl[k]?=some (sPassed,Pk.loc))
    (e:N (loc.set k (some (.clo [i,j]))) (t.H.set 0 (.tab true))) (hq:Aim p.env p.c.sl t N R Ct Q):wpAny (model pw X.G.w) p.A (storeName p.env sPassed (.ref h'.objs.size)) (fun _ s=>Q .next s) p.E { t.s with heap:=h'.push (fnObj fd),toks:=tk }:=by
  have up:∀ b o,h'.get? b=some o→(h'.push (fnObj fd)).get? b=some o:=fun b o q=>Heap.get?_push_of_some _ q
  have kk:∀ b o,b≠tabA→t.h.get? b=some o→(h'.push (fnObj fd)).get? b=some o:=fun b o n q=>up b o (hx b o n q)
  have kc':=kc.imp fun o e=>And.intro (up _ o e.1) e.2
  have hr:Later X.G t.ρ t.h t.ρ (h'.push (fnObj fd))→ObjR X.G t.ρ (h'.push (fnObj fd)) (.tab true) tabA:=fun _=>⟨rfl,.inr ⟨rfl,cd,up _ _ kt,kc',nc⟩⟩
  have st:=t.upds (own:=none') h0 kk hr tk
  exact store_local (t:=t.upd h0 kk hr tk) (K:=N) (Q:=fun _ s=>Q .next s) (o.on.fr.step st) hk (.clo ⟨⟨_,Heap.get?_push_size _ rfl,rfl,rfl⟩,good,cls,⟨cd,hc,hqn▸kc',nc⟩,t.sim.free (Heap.get?_none_of_le hsz)⟩) e
    (((hq.after st.any).1).mono fun _ h=>.inl h)
theorem no_some {α:Type}{a:α}{C:Prop} (e:none=some a):C:=nomatch e
theorem cel_eq {v:V}{i:Nat} (e:(match v with | .cel i=>some i | _=>none)=some i):v = .cel i :=
  V.casesOn (motive_1:=fun v=>(match v with | .cel i=>some i | _=>none)=some i→v = .cel i) v no_some (fun _=>no_some) (fun _=>no_some) (fun _=>no_some) (fun _=>no_some) (fun _=>no_some) (fun _=>no_some) (fun _=>no_some) (fun _ _=>no_some) (fun _=>no_some) (fun _=>no_some) (fun _ e=>congrArg V.cel (Option.some.inj e)) e
theorem celAt_eq {k i:Nat} (e:celAt loc k=some i):loc[k]?=some (some (.cel i)) :=
  (Option.bind_eq_some_iff.mp e).elim fun u e=>(Option.bind_eq_some_iff.mp e.2).elim fun v e'=>e.1.trans (congrArg some (e'.1.trans (congrArg some (cel_eq e'.2))))
theorem mapM_two {a b:Nat}{K:List Nat→Prop}{f:Nat→Option Nat}{C:Prop} (e:optK ([a,b].mapM f) K) (g:∀ i j,f a=some i→f b=some j→K [i,j]→C):C:=by
  rw [List.mapM_cons,List.mapM_cons,List.mapM_nil] at e
  cases h1:f a with
  | none=>rw [h1] at e;exact False.elim e
  | some i =>
    cases h2:f b with
    | none=>rw [h1,h2] at e;exact False.elim e
    | some j=>rw [h1,h2] at e;exact g i j h1 h2 e
theorem lookup_mem {l:List (PySem.Str × NameKind)}{n:PySem.Str}{k:NameKind} (h:l.lookup n=some k):(n,k)∈l:=PySem.mem_of_lookup h
theorem def_clo {sc:Scope}{env:Env}{c1 c2:Addr}{fd:FuncData}{L:FuncData→Bool} (hn:∀ n,(n,NameKind.free)∈sc.names→n=sStale∨n=sWhole) (uniq:(sc.names.map (·.1)).Nodup) (e1:env.cells.lookup sStale=some c1) (e2:env.cells.lookup sWhole=some c2) (ap:env.cells.Pairwise fun x y=>x.2≠y.2)
    (s1:sc.names.lookup sStale=some .free) (s2:sc.names.lookup sWhole=some .free) (hfd:fd.closure=freeCells env sc.names) (hL:L fd=true) :
    closureFor sc env=pure (freeCells env sc.names)∧CloFd fd L∧fd.closure.lookup sStale=some c1∧fd.closure.lookup sWhole=some c2 :=
  have hfree:∀ n,(n,NameKind.free)∈sc.names→∃ c,env.cells.lookup n=some c:=fun n m=>(hn n m).elim (fun q=>⟨c1,q▸e1⟩) fun q=>⟨c2,q▸e2⟩
  have fc:=freeCells_spec hfree uniq
  have l1:=(fc.1 _ (lookup_mem s1)).trans e1
  have l2:=(fc.1 _ (lookup_mem s2)).trans e2
  ⟨closureFor_run hfree,⟨hL,hfd▸(List.pairwise_map.mp fc.2.2).imp_of_mem fun {x y} hx hy hxy e=>hxy (cell_name ap (fc.2.1 x hx).2 (e▸(fc.2.1 y hy).2)),
    fun x m=>(hn x.1 (fc.2.1 x (hfd▸m)).1).imp (fun q:x.1=sStale=>hfd▸l1.trans (e1.symm.trans (q▸(fc.2.1 x (hfd▸m)).2))) fun q:x.1=sWhole=>hfd▸l2.trans (e2.symm.trans (q▸(fc.2.1 x (hfd▸m)).2))⟩,hfd▸l1,hfd▸l2⟩
structure DefOk (K:Frag) (c:CkD) (k a b:Nat) (params:Arguments) (body:List Stmt) (sc:Scope) (pos:Pos):Prop where
  hk:c.sl[k]?=some (sPassed,Pk.loc)
  ha:c.sl[a]?=some (sStale,Pk.cel)
  hb:c.sl[b]?=some (sWhole,Pk.cel)
  hl:pos.line=pasL
  hc:pos.col=pasC
  hst:c.names.lookup sStale=some .cell
  tx:cloParts K params body sc=true
theorem chkDef_elim {K:Frag}{c:CkD}{k:Nat}{cells:List Nat}{q:PayS .fdef}{C:List Nat→Stmt→Prop} (h:chkDef K c k cells q=true) (f:∀ a b params body sc pos,DefOk K c k a b params body sc pos→C [a,b] (.FunctionDef sPassed params body [] none [] sc none sPassed pos)):C cells (Sq.mk .fdef q) :=
  two_elim (C:=fun cells=>C cells (Sq.mk .fdef q)) h fun a b h =>
    beq_elim (C:=fun n=>C [a,b] (.FunctionDef n q.2.1 q.2.2.1 q.2.2.2.1 q.2.2.2.2.1 q.2.2.2.2.2.1 q.2.2.2.2.2.2.1 q.2.2.2.2.2.2.2.1 q.2.2.2.2.2.2.2.2.1 q.2.2.2.2.2.2.2.2.2)) (andL h) <|
    beq_elim (C:=fun n=>C [a,b] (.FunctionDef sPassed q.2.1 q.2.2.1 q.2.2.2.1 q.2.2.2.2.1 q.2.2.2.2.2.1 q.2.2.2.2.2.2.1 q.2.2.2.2.2.2.2.1 n q.2.2.2.2.2.2.2.2.2)) (andL (andR h)) <|
    empty_elim (C:=fun n=>C [a,b] (.FunctionDef sPassed q.2.1 q.2.2.1 n q.2.2.2.2.1 q.2.2.2.2.2.1 q.2.2.2.2.2.2.1 q.2.2.2.2.2.2.2.1 sPassed q.2.2.2.2.2.2.2.2.2)) (andL (andL (andR (andR h)))) <|
    none_elim (C:=fun n=>C [a,b] (.FunctionDef sPassed q.2.1 q.2.2.1 [] n q.2.2.2.2.2.1 q.2.2.2.2.2.2.1 q.2.2.2.2.2.2.2.1 sPassed q.2.2.2.2.2.2.2.2.2)) (andL (andR (andL (andR (andR h))))) <|
    empty_elim (C:=fun n=>C [a,b] (.FunctionDef sPassed q.2.1 q.2.2.1 [] none n q.2.2.2.2.2.2.1 q.2.2.2.2.2.2.2.1 sPassed q.2.2.2.2.2.2.2.2.2)) (andL (andR (andR (andL (andR (andR h)))))) <|
    none_elim (C:=fun n=>C [a,b] (.FunctionDef sPassed q.2.1 q.2.2.1 [] none [] q.2.2.2.2.2.2.1 n sPassed q.2.2.2.2.2.2.2.2.2)) (andR (andR (andR (andL (andR (andR h)))))) <|
    f a b _ _ _ _ ⟨of_decide_eq_true (andL (andR (andR (andR h)))),of_decide_eq_true (andL (andR (andR (andR (andR h))))),of_decide_eq_true (andL (andR (andR (andR (andR (andR h)))))),of_decide_eq_true (andL (andR (andR (andR (andR (andR (andR h))))))),of_decide_eq_true (andL (andR (andR (andR (andR (andR (andR (andR h)))))))),eq_of_beq (andL (andR (andR (andR (andR (andR (andR (andR (andR h))))))))),(andR (andR (andR (andR (andR (andR (andR (andR (andR h)))))))))⟩
theorem look_fn {K:Frag}{params:Arguments}{body:List Stmt}{sc:Scope} (h:cloParts K params body sc=true) (cl:List (PySem.Str × Addr)) (doc pm cv ctv:Value):lookFd K (fnX sPassed pasQ params body sc cl .none .none doc pm none cv ctv)=true:=by
  show (cloParts K params body sc && ((mainGlobals == mainGlobals) && ((builtinsNs == builtinsNs) && (((Value.none:Value) == .none) && (((Value.none:Value) == .none) && (pasQ == pasQ))))))=true
  rw [h]
  decide +kernel
theorem qual_pas {env:Env} (h:env.kindOf sPassed=some .local) (hq:env.qual=pasO):qualnameIn env sPassed sPassed=pasQ:=by
  unfold qualnameIn
  rw [h,hq]
  decide +kernel
theorem St.tab {b:Bool} (t:St X.G) (h:t.H[0]?=some (.tab b)):t.ρ[0]?=some tabA∧TabR t.ρ t.h b tabA :=
  have hlt:0 < t.ρ.length:=t.sim.len▸(gS h).1
  have r:=t.sim.objs 0 _ _ h (List.getElem?_eq_getElem hlt)
  ⟨(List.getElem?_eq_getElem hlt).trans (congrArg some r.1),r.1▸r⟩
theorem nil_or_cons {α:Type}{l:List α}{C:Prop} (f:l=[]→C) (g:∀ a r,l=a :: r→C):C:=by
  cases l with
  | nil=>exact f rfl
  | cons a r=>exact g a r rfl
theorem def_make {env:Env}{sc:Scope}{params:Arguments}{body:List Stmt}{pos:Pos}{tb:Bool}{A:Around}{E:Value→Shared→Prop}{Q:Value→Shared→Prop}{cl:List (PySem.Str × Addr)} (D:Dfs X.G X.Kf) (hcl:closureFor sc env=pure cl) (hne:cl≠[]) (glob:env.globals=mainGlobals) (hcode:env.code = .ref tabC) (hl:pos.line=pasL) (hc:pos.col=pasC) (ht:TabR t.ρ t.h tb tabA)
    (fin:∀ doc pm cd ctv h' tk,(∀ b o,b≠tabA→t.h.get? b=some o→h'.get? b=some o)→@LE.le Nat _ t.h.objs.size h'.objs.size→At h' cd (isCode pasQ)→cd∉t.ρ→h'.get? tabA=some (tabObj #[rawInt pasL,rawInt pasC,.ref cd]) →
      Q (.ref h'.objs.size) { t.s with heap:=h'.push (fnObj (fnX sPassed pasQ params body sc cl .none .none doc pm none (.ref cd) ctv)),toks:=tk }) :
    wpAny (model pw X.G.w) A (makeFunction sPassed pasQ params (.stmts body) sc env [] [] [] pos pos.line) Q E t.s :=
  have Dh:=D.here t
  Dh.2.elim fun mg G=>ht.2.elim
    (fun z=>nil_or_cons (fun e=>absurd e hne) fun qc rc e=>made_new (q:=qc) (r:=rc) (e▸hcl) glob G.1 hcode Dh.1 z.2 trivial rfl tab_ne.2 G.2 fun c' ctv doc h' tk hx hge hlt kc kt =>
      e▸fin doc _ c' ctv h' tk hx (Nat.le_of_lt (Nat.lt_of_le_of_lt hge hlt)) kc (t.sim.free (Heap.get?_none_of_le hge)) (by rw [kt,hl,hc];rfl))
    fun z=>z.2.elim fun cd z=>makeFunction_hit (cv:=.ref cd) hcl glob G.1 hcode Dh.1 z.1 (by simp [TriplesOk,rawInt]) (by simp [codeAmong,rawInt,hl,hc]) G.2 fun ctv doc h' tk hx hsz =>
      fin doc _ cd ctv h' tk (fun b o _ e=>hx b o e) hsz (z.2.1.imp fun o e=>⟨hx _ _ e.1,e.2⟩) z.2.2 (hx _ _ z.1)
theorem s_def (D:Dfs X.G X.Kf) (k:Nat) (cells:List Nat):SOk X (.defc k cells):=by
  intro p x loc t N R Ct Q h o ev hq
  have h:onS .fdef x (fun q=>chkDef X.Kf p.c k cells q)=true:=h
  apply onS_elim h;intro q h
  refine chkDef_elim (C:=fun cells x=>evS X.O (.defc k cells) loc t.H N R Ct→wpAny _ _ (exec x p.env) _ _ _) h (fun a b params body sc pos d ev=>?_) ev
  have T:CloTx X.Kf params body sc:=cloParts_ok d.tx
  refine mapM_two ev fun i j q1 q2 ev=>optK.elim ev fun o' ho ev=>ev.1.elim fun tb ho'=>?_
  have ht:=t.tab (ho'.symm▸ho)
  have a1:=o.on.fr.celc d.ha (.inl rfl) (celAt_eq q1)
  have a2:=o.on.fr.celc d.hb (.inl rfl) (celAt_eq q2)
  refine a1.2.elim fun c1 a1=>a2.2.elim fun c2 a2=>?_
  have hd:=o.dfc d.hst
  have hk:p.env.kindOf sPassed=some .local:=o.on.fr.slots.elim fun m h=>(h.2 k _ _ d.hk (List.getElem?_eq_getElem (by rw [o.on.fr.len];exact (gS d.hk).1)) (fun q=>nomatch q)).1
  have Z:=fun doc pm cv ctv=>def_clo (fd:=fnX sPassed pasQ params body sc (freeCells p.env sc.names) .none .none doc pm none cv ctv) (L:=X.G.look) T.free T.uniq a1.1 a2.1 o.on.fr.ok.apart T.stale T.whole rfl (D.look▸look_fn d.tx _ _ _ _ _)
  have Z0:=Z .none .none .none .none
  refine nestDef_K T.df T.par.kd (T.par.ann p.env) ?_
  rw [qual_pas hk hd.2]
  exact def_make D Z0.1 (fun e=>nomatch (e▸Z0.2.2.1:List.lookup sStale []=some c1)) o.on.fr.ok.glob hd.1 d.hl d.hc ht.2 fun doc pm cd ctv h' tk hx hsz kc nc kt =>
    def_fin o (Z doc pm (.ref cd) ctv).2.1 (.cons ⟨c1,a1.2,(Z doc pm (.ref cd) ctv).2.2.1⟩ (.cons ⟨c2,a2.2,(Z doc pm (.ref cd) ctv).2.2.2⟩ .nil)) rfl rfl hx hsz kc nc kt ht.1 d.hk ev.2.2 hq
end
section
variable {X:Cx}{D₀:Nat}
theorem sok (Y:Ok X D₀) (D:Dfs X.G X.Kf) (st:S):SOk X st :=
  S.rec (motive_1:=SOk X) (motive_2:=SsOk X) (fun u e=>s_asg Y u e) (fun a _ _ e=>s_aug (eok Y a) (eok Y e)) (fun e=>s_ex (eok Y e)) (fun u _ _ a b=>s_ite (tok Y u) a b) (fun u it _ b=>s_for (tgok Y u) (itok Y it) b) (fun u _ b=>s_while (tok Y u) b) (fun e=>s_ret (eok Y e)) s_cont (fun k cells=>s_def D k cells) s_stuck ss_nil (fun _ _ a b=>ss_cons a b) st
theorem ssok (Y:Ok X D₀) (D:Dfs X.G X.Kf) (ss:List S):SsOk X ss:=by
  induction ss with
  | nil=>exact ss_nil
  | cons s r ih=>exact ss_cons (sok Y D s) ih
end
section
theorem zip_get {ns:List PySem.Str}:∀ {vs:List Value}{k:Nat}{n:PySem.Str}{v:Value},ns.Nodup→ns[k]?=some n→vs[k]?=some v→(ns.zip vs).lookup n=some v:=by
  induction ns with
  | nil=>exact fun _ e _=>no_some e
  | cons a r ih =>
    intro vs k n v nd e1 e2
    cases vs with
    | nil=>exact no_some e2
    | cons b t =>
      have nd:=List.nodup_cons.mp nd
      cases k with
      | zero=>exact Option.some.inj e1▸Option.some.inj e2▸lookup_eq
      | succ k=>exact (lookup_ne fun q:n=a=>nd.1 (q▸List.mem_of_getElem? e1)).trans (ih nd.2 e1 e2)
theorem zip_miss {ns:List PySem.Str}{n:PySem.Str} (h:n∉ns):∀ {vs:List Value},(ns.zip vs).lookup n=none:=by
  induction ns with
  | nil=>exact rfl
  | cons a r ih =>
    intro vs
    cases vs with
    | nil=>exact rfl
    | cons b t=>exact (lookup_ne fun q:n=a=>h (q▸List.mem_cons_self ..)).trans (ih fun m=>h (List.mem_cons_of_mem _ m))
theorem zip_self {ns:List PySem.Str}{vs:List Value} (nd:ns.Nodup) (hl:ns.length=vs.length):ns.filterMap (fun n=>((ns.zip vs).lookup n).map (n,·))=ns.zip vs:=by
  have key:∀ {ms:List PySem.Str}{ws:List Value}{f:PySem.Str→Option Value},ms.length=ws.length→(∀ (k:Nat) n v,ms[k]?=some n→ws[k]?=some v→f n=some v)→ms.filterMap (fun n=>(f n).map (n,·))=ms.zip ws:=by
    intro ms
    induction ms with
    | nil=>exact fun _ _=>rfl
    | cons a r ih =>
      intro ws f hl h
      cases ws with
      | nil=>exact nomatch hl
      | cons b t =>
        rw [List.filterMap_cons,h 0 a b rfl rfl]
        exact congrArg ((a,b) :: ·) (ih (Nat.succ.inj hl) fun k n v e1 e2=>h (k+1) n v e1 e2)
  exact key hl fun k n v=>zip_get nd
theorem snoc_of {α:Type}{l:List α}{C:List α→Prop} (h:0 < l.length) (f:∀ m x,C (m++[x])):C l :=
  List.dropLast_concat_getLast (List.length_pos_iff.mp h)▸f _ _
variable {M:Model}{A:Around}{E:Value→Shared→Prop}{s:Shared}{Q:List (PySem.Str × Value)→Shared→Prop}{xs:List Value}
noncomputable abbrev withD (n:Nat) (xs ds:List Value):List Value:=xs++ds.drop (xs.length+ds.length - n)
theorem dflt_loop {ns:List PySem.Str}{ds:List Value}{f:PySem.Str × Value→List (PySem.Str × Value)→Sem (ForInStep (List (PySem.Str × Value)))} (hf:∀ n d b,f (n,d) b=if (b.lookup n).isNone=true then pure (.yield (b++[(n,d)])) else pure (.yield b)) (nd:ns.Nodup)
    (hds:ds=[]∨∃ d,ds=[d]) (h0:0 < ns.length) (hl:(withD ns.length xs ds).length=ns.length) (hq:Q (ns.zip (withD ns.length xs ds)) s) :
    wpAny M A (forIn ((ns.drop (ns.length - (ds.drop (ds.length - ns.length)).length)).zip (ds.drop (ds.length - ns.length))) (ns.zip xs) f) Q E s:=by
  refine hds.elim (fun e=>?_) fun e=>e.elim fun d e=>?_
  · subst e
    rw [withD,List.drop_nil,List.append_nil] at hq
    rw [List.drop_nil,List.zip_nil_right]
    exact wpAny_pure hq
  · subst e
    revert nd hl hq
    refine snoc_of (C:=fun ns=>ns.Nodup→(withD ns.length xs [d]).length=ns.length→Q (ns.zip (withD ns.length xs [d])) s→wpAny M A (forIn ((ns.drop (ns.length - ([d].drop (1 - ns.length)).length)).zip ([d].drop (1 - ns.length))) (ns.zip xs) f) Q E s) h0 fun ms last nd hl hq=>?_
    have hn:(ms++[last]).length=ms.length+1:=List.length_append
    rw [hn,show 1 - (ms.length+1)=0 from Nat.sub_eq_zero_of_le (Nat.le_add_left ..)]
    show wpAny M A (forIn (((ms++[last]).drop ms.length).zip [d]) _ f) Q E s
    rw [List.drop_left]
    refine wpAny_bind (m:=f (last,d) ((ms++[last]).zip xs)) ?_
    rw [hf]
    rw [hn] at hl hq
    by_cases hx:ms.length < xs.length
    · rw [zip_get nd (k:=ms.length) List.getElem?_concat_length (List.getElem?_eq_getElem hx)]
      have:withD (ms.length+1) xs [d]=xs:=by
        rw [withD,List.drop_eq_nil_of_le (by show 1≤xs.length+1 - (ms.length+1);rw [Nat.add_sub_add_right];exact Nat.sub_pos_of_lt hx),List.append_nil]
      rw [this] at hq
      exact wpAny_pure (wpAny_pure hq)
    · have hx:=Nat.not_lt.mp hx
      have e0:xs.length+1 - (ms.length+1)=0:=by rw [Nat.add_sub_add_right];exact Nat.sub_eq_zero_of_le hx
      have e1:withD (ms.length+1) xs [d]=xs++[d]:=by rw [withD];show xs++[d].drop (xs.length+1 - (ms.length+1))=_;rw [e0];rfl
      rw [e1] at hl hq
      have e2:ms.length=xs.length:=(Nat.succ.inj (List.length_append.symm.trans hl)).symm
      have e3:(ms++[last]).zip xs=ms.zip xs:=(List.append_nil xs▸List.zip_append (r₁:=[last]) (r₂:=[]) e2).trans (List.append_nil _)
      rw [e3,zip_miss fun m=>(List.nodup_append.mp nd).2.2 _ m _ (List.mem_singleton.mpr rfl) rfl]
      rw [List.zip_append e2] at hq
      exact wpAny_pure (wpAny_pure hq)
theorem given_le {n:Nat}{ds:List Value} (hl:(withD n xs ds).length=n):xs.length≤n:=hl▸List.length_append▸Nat.le_add_right ..
theorem miss_nil {ns:List PySem.Str}{ds:List Value} (nd:ns.Nodup) (hl:(withD ns.length xs ds).length=ns.length) :
    (!(List.filter (fun n=>((ns.zip xs).lookup n).isNone) (ns.take (ns.length - (ds.drop (ds.length - ns.length)).length))).isEmpty)=false:=by
  rw [List.filter_eq_nil_iff.mpr fun n hn=>?_]
  · rfl
  · obtain ⟨k,hk⟩:=List.mem_iff_getElem?.mp hn
    have hk1:=(gS hk).1
    have h:ns.length≤xs.length+ds.length:=by
      rw [List.length_append,List.length_drop] at hl
      exact hl▸Nat.add_le_add_left (Nat.sub_le ..) _
    have hk2:k < xs.length:=by
      rw [List.length_take,List.length_drop] at hk1
      refine Nat.lt_of_lt_of_le hk1 (Nat.le_trans (Nat.min_le_left ..) (Nat.sub_le_of_le_add ((Nat.le_total ds.length ns.length).elim (fun q=>?_) fun q=>?_)))
      · rw [Nat.sub_eq_zero_of_le q];exact h
      · rw [Nat.sub_sub_self q];exact Nat.le_add_left ..
    rw [List.getElem?_take_of_lt (by rw [List.length_take] at hk1;exact Nat.lt_of_lt_of_le hk1 (Nat.min_le_left ..))] at hk
    rw [zip_get nd hk (List.getElem?_eq_getElem hk2)]
    exact Bool.false_ne_true
theorem ParOk.eq {p:Arguments} (P:ParOk p):p=⟨[],p.args,none,[],[],none,p.defaults⟩:=by
  obtain ⟨po,ar,va,ko,kd,kw,dfl⟩:=p
  obtain ⟨h1,h2,h3,h4,h5,_⟩:=P
  dsimp only at h1 h2 h3 h4 h5
  subst h1 h2 h3 h4 h5
  rfl
theorem bind_core {fd:FuncData}{ar:List Arg}{dfl:List Expr}{ds:List Value}{o:Option (Array Value)} (hs:∀ Q:Option (Array Value)→Shared→Prop,Q o s→wpAny M A (seqItems? fd.defaults) Q E s) (ho:(o.getD #[]).toList=ds)
    (nd:(ar.map (·.arg)).Nodup) (hds:ds=[]∨∃ d,ds=[d]) (h0:0 < (ar.map (·.arg)).length) (hl:(withD (ar.map (·.arg)).length xs ds).length=(ar.map (·.arg)).length) (hq:Q ((ar.map (·.arg)).zip (withD (ar.map (·.arg)).length xs ds)) s) :
    wpAny M A (bindArgs { fd with params:=⟨[],ar,none,[],[],none,dfl⟩ } ⟨xs,[]⟩) Q E s:=by
  unfold bindArgs
  refine wpAny_bind (m:=forIn [] _ _) (wpAny_pure (wpAny_bind (m:=seqItems? fd.defaults) (hs _ (bm_if_false ?_ (bm_if_false ?_ (wpAny_bind ?_))))))
  · show (decide (xs.length > (ar.map (·.arg)).length) && true)=false
    rw [decide_eq_false (Nat.not_lt.mpr (given_le hl))];rfl
  · subst ho
    exact miss_nil nd hl
  subst ho
  refine dflt_loop (f:=_) (fun n d b=>?_) nd hds h0 hl ?_
  · rfl
  · refine wpAny_bind (m:=forIn [] _ _) (wpAny_pure (bm_if_false rfl (wpAny_pure ?_)))
    show Q (List.filterMap (fun n=>(((ar.map (·.arg)).zip (withD (ar.map (·.arg)).length xs (o.getD #[]).toList)).lookup n).map (n,·)) (ar.map (·.arg)++[])) s
    rw [List.append_nil,zip_self nd hl.symm]
    exact hq
theorem bind_ok {s:Shared}{fd:FuncData}{xs ds:List Value}{o:Option (Array Value)} (P:ParOk fd.params) (hs:∀ M A E (Q:Option (Array Value)→Shared→Prop),Q o s→wpAny M A (seqItems? fd.defaults) Q E s) (ho:(o.getD #[]).toList=ds) (nd:(fd.params.args.map (·.arg)).Nodup) (hds:ds=[]∨∃ d,ds=[d]) (h0:0 < (fd.params.args.map (·.arg)).length)
    (hl:(withD (fd.params.args.map (·.arg)).length xs ds).length=(fd.params.args.map (·.arg)).length):BindsTo s fd ⟨xs,[]⟩ ((fd.params.args.map (·.arg)).zip (withD (fd.params.args.map (·.arg)).length xs ds)) :=
  fun M A E Q hq=>(congrArg (fun p=>wpAny M A (bindArgs { fd with params:=p } ⟨xs,[]⟩) Q E s) P.eq).mpr (bind_core (hs M A E) ho nd hds h0 hl hq)
end
noncomputable def celSlot (sl:Sl) (k:Nat):Bool:=onSome sl[k]? fun p=>p.2 == .cel
noncomputable def onSeq (d:Data) (p:List Value→Bool):Bool:=match d with
  | .seq xs _=>p xs.toList
  | _=>false
noncomputable def onAt (K:Frag) (v:Value) (p:Obj→Bool):Bool:=match v with
  | .ref a=>onSome (K.lookup a) p
  | _=>false
noncomputable def isUnit (o:Obj):Bool:=(o.cls == .type "tuple") && (o.dict.isNone && (onSeq o.data (fun xs=>xs.isEmpty) && o.slots.toList.isEmpty))
noncomputable def isTup0 (v:V):Bool:=match v with
  | .tup vs=>vs.isEmpty
  | _=>false
noncomputable def dfV (K:Frag) (v:V) (d:Value):Bool:=(valOf (tokOf d) v == some d) || (isTup0 v && onAt K d isUnit)
noncomputable def dfOk (K:Frag) (l:List V) (d:Value):Bool:=((d == .none) && l.isEmpty) || onAt K d fun o=>onSeq o.data fun xs=>onOne xs fun u=>onOne l fun v=>dfV K v u
noncomputable def fdChk (K:Frag) (I:FnInfo) (sl:Sl) (nest:Nat) (fd:FuncData):Bool :=
  plainPar fd.params && (scopeOk fd.scope && (decide (sl.length=I.ns) && (((sl.take I.np).map (·.1) == fd.params.args.map (·.arg)) && (decide (I.np≤I.ns) && (decide (0 < I.np) && (decide ((sl.map (·.1)).Nodup) &&
  (sl.all (fun p=>(fd.scope.names.lookup p.1 == some p.2.kind) && (p.2 == .loc || p.2 == .cel)) && (decide I.hc.Nodup && (I.hc.all (fun k=>decide (I.np≤k) && celSlot sl k) && (dfOk K I.dflt fd.defaults && (fd.closure.isEmpty &&
  ((fd.globals == mainGlobals) && ((fd.builtins == builtinsNs) && (codeIn K fd.code fd.qualname && ((!(fd.scope.names.lookup sStale == some .cell) || ((fd.code == .ref tabC) && (fd.qualname++".<locals>." == pasO))) && onStmts fd.body (chkSs K ⟨fd.scope.names,sl,nest⟩ I.body))))))))))))))))
structure FdOk (K:Frag) (I:FnInfo) (sl:Sl) (nest:Nat) (fd:FuncData):Prop where
  par:ParOk fd.params
  kind:fd.scope.kind = .function
  gen:fd.scope.isGenerator=false
  co:fd.scope.isCoroutine=false
  nodup:(fd.scope.names.map (·.1)).Nodup
  len:sl.length=I.ns
  args:(sl.take I.np).map (·.1)=fd.params.args.map (·.arg)
  le:I.np≤I.ns
  pos:0 < I.np
  slNodup:(sl.map (·.1)).Nodup
  slots:∀ p,p∈sl→fd.scope.names.lookup p.1=some p.2.kind∧(p.2 = .loc∨p.2 = .cel)
  hcNodup:I.hc.Nodup
  hc:∀ k,k∈I.hc→I.np≤k∧∃ n,sl[k]?=some (n,Pk.cel)
  df:dfOk K I.dflt fd.defaults=true
  clo:fd.closure=[]
  glob:fd.globals=mainGlobals
  blt:fd.builtins=builtinsNs
  code:codeIn K fd.code fd.qualname=true
  dfc:fd.scope.names.lookup sStale=some .cell→fd.code = .ref tabC∧fd.qualname++".<locals>." = pasO
  body:∃ b,fd.body = .stmts b∧chkSs K ⟨fd.scope.names,sl,nest⟩ I.body b=true
theorem celSlot_ok {sl:Sl}{k:Nat} (h:celSlot sl k=true):∃ n,sl[k]?=some (n,Pk.cel) :=
  some_elim (C:=fun o=>∃ n,o=some (n,Pk.cel)) h fun p e=>⟨p.1,congrArg (fun q=>some (p.1,q)) (eq_of_beq e)⟩
theorem fdChk_ok {K:Frag}{I:FnInfo}{sl:Sl}{nest:Nat}{fd:FuncData} (h:fdChk K I sl nest fd=true):FdOk K I sl nest fd :=
  ⟨plainPar_ok (andL h),eq_of_beq (andL (andL (andR h))),(Bool.not_eq_true' _).mp (andL (andR (andL (andR h)))),(Bool.not_eq_true' _).mp (andL (andR (andR (andL (andR h))))),of_decide_eq_true (andR (andR (andR (andL (andR h))))),of_decide_eq_true (andL (andR (andR h))),eq_of_beq (andL (andR (andR (andR h)))),of_decide_eq_true (andL (andR (andR (andR (andR h))))),of_decide_eq_true (andL (andR (andR (andR (andR (andR h)))))),of_decide_eq_true (andL (andR (andR (andR (andR (andR (andR h))))))),
    fun p m=>have z:=List.all_eq_true.mp (andL (andR (andR (andR (andR (andR (andR (andR h)))))))) p m;⟨eq_of_beq (andL z),(bO (andR z)).imp eq_of_beq eq_of_beq⟩,of_decide_eq_true (andL (andR (andR (andR (andR (andR (andR (andR (andR h))))))))),fun k m=>have z:=List.all_eq_true.mp (andL (andR (andR (andR (andR (andR (andR (andR (andR (andR h)))))))))) k m;⟨of_decide_eq_true (andL z),celSlot_ok (andR z)⟩,(andL (andR (andR (andR (andR (andR (andR (andR (andR (andR (andR h))))))))))),List.isEmpty_iff.mp (andL (andR (andR (andR (andR (andR (andR (andR (andR (andR (andR (andR h)))))))))))),eq_of_beq (andL (andR (andR (andR (andR (andR (andR (andR (andR (andR (andR (andR (andR h))))))))))))),eq_of_beq (andL (andR (andR (andR (andR (andR (andR (andR (andR (andR (andR (andR (andR (andR h)))))))))))))),(andL (andR (andR (andR (andR (andR (andR (andR (andR (andR (andR (andR (andR (andR (andR h))))))))))))))),
    fun e=>(bO (andL (andR (andR (andR (andR (andR (andR (andR (andR (andR (andR (andR (andR (andR (andR (andR h))))))))))))))))).elim (fun q=>absurd (e▸q:(!(some NameKind.cell == some .cell))=true) (by decide)) fun q=>⟨eq_of_beq (andL q),eq_of_beq (andR q)⟩,onStmts_elim (andR (andR (andR (andR (andR (andR (andR (andR (andR (andR (andR (andR (andR (andR (andR (andR h))))))))))))))))⟩
theorem All2.drop {α β:Type}{R:α→β→Prop}{l:List α}{m:List β} (r:All2 R l m):∀ n,All2 R (l.drop n) (m.drop n):=by
  induction r with
  | nil=>exact fun n=>by rw [List.drop_nil,List.drop_nil];exact .nil
  | cons h q ih =>
    intro n
    cases n with
    | zero=>exact .cons h q
    | succ n=>exact ih n
theorem onAt_elim {K:Frag}{v:Value}{p:Obj→Bool}{C:Value→Prop} (h:onAt K v p=true) (f:∀ a o,K.lookup a=some o→p o=true→C (.ref a)):C v:=by
  cases v with
  | ref a=>exact some_elim (C:=fun u=>K.lookup a=u→C (.ref a)) h (fun o e q=>f a o q e) rfl
  | _=>exact absurd h Bool.false_ne_true
theorem onSeq_elim {d:Data}{p:List Value→Bool} (h:onSeq d p=true):∃ l n,d = .seq (List.toArray l) n∧p l=true:=by
  cases d with
  | seq xs n=>exact ⟨xs.toList,n,rfl,h⟩
  | _=>exact absurd h Bool.false_ne_true
theorem isUnit_ok {o:Obj} (h:isUnit o=true):∃ n,o=tupObj #[] n :=
  (onSeq_elim (andL (andR (andR h)))).elim fun l e=>e.elim fun n e=>⟨n,congr (congr (congr (congrArg Obj.mk (eq_of_beq (andL h))) (Option.isNone_iff_eq_none.mp (andL (andR h)))) (e.1.trans (congrArg (fun l=>Data.seq (List.toArray l) n) (List.isEmpty_iff.mp e.2)))) (Array.toList_inj.mp (List.isEmpty_iff.mp (andR (andR (andR h)))))⟩
section
variable {G:Ctx}{K:Frag}{t:St G}
theorem dfV_ok (F:Facts G K) {v:V}{d:Value} (h:dfV K v d=true):RV t v d :=
  (bO h).elim (fun h=>val_rel (eq_of_beq h)) fun h=>and2 h fun h1 h=>onAt_elim (C:=fun d=>RV t v d) h fun a o e ho=>(isUnit_ok ho).elim fun n ho=>by
    cases v with
    | tup vs =>
      obtain rfl:vs=[]:=List.isEmpty_iff.mp h1
      exact .tup (us:=[]) (ho▸F.here t a o e) (fun m=>F.noTab a o e ((t.sim.apart a m).resolve_right fun z=>nomatch z.symm.trans (F.inn a o e))) .nil
    | _=>exact absurd h1 Bool.false_ne_true
theorem binds_ok {I:FnInfo}{sl:Sl}{nest:Nat}{fd:FuncData} (F:Facts G K) (X:FdOk K I sl nest fd) {vs:List V}{xs:List Value} (r:RVs t vs xs) (hl:(withDflt I vs).length=I.np) :
    ∃ ys,RVs t (withDflt I vs) ys∧BindsTo t.s fd ⟨xs,[]⟩ ((fd.params.args.map (·.arg)).zip ys):=by
  have hn:(fd.params.args.map (·.arg)).length=I.np:=by rw [← X.args,List.length_map,List.length_take,X.len];exact Nat.min_eq_left X.le
  have nd:(fd.params.args.map (·.arg)).Nodup:=X.args▸X.slNodup.sublist ((List.take_sublist ..).map _)
  have key:∀ {ds:List Value}{o:Option (Array Value)},RVs t I.dflt ds→(∀ M A E (Q:Option (Array Value)→Shared→Prop),Q o t.s→wpAny M A (seqItems? fd.defaults) Q E t.s)→(o.getD #[]).toList=ds→(ds=[]∨∃ d,ds=[d]) →
      ∃ ys,RVs t (withDflt I vs) ys∧BindsTo t.s fd ⟨xs,[]⟩ ((fd.params.args.map (·.arg)).zip ys):=fun {ds o} rd hs ho hd=>by
    have ry:RVs t (withDflt I vs) (withD (fd.params.args.map (·.arg)).length xs ds):=by
      rw [hn]
      unfold withDflt withD
      rw [← r.len,← rd.len]
      exact r.app (rd.drop _)
    exact ⟨_,ry,bind_ok X.par hs ho nd hd (hn▸X.pos) (ry.len.symm.trans (hl.trans hn.symm))⟩
  refine (bO X.df).elim (fun h=>and2 h fun h1 h2=>?_) fun h=>?_
  · exact key (o:=none) (ds:=[]) (List.isEmpty_iff.mp h2▸.nil) (fun M A E Q hq=>by rw [eq_of_beq h1];exact wpAny_pure hq) rfl (.inl rfl)
  · refine onAt_elim (C:=fun d=>fd.defaults=d→_) h (fun a o e ho hd=>(onSeq_elim ho).elim fun l z=>z.elim fun n z=>?_) rfl
    have w:RVs t I.dflt l∧∃ d,l=[d]:=one_elim (C:=fun l=>RVs t I.dflt l∧∃ d,l=[d]) z.2 fun u h=>⟨one_elim (C:=fun m=>RVs t m [u]) h fun v h=>.cons (dfV_ok F h) .nil,u,rfl⟩
    exact key (o:=some l.toArray) w.1 (fun M A E Q hq=>by rw [hd];exact wpAny_seqItems (F.here t a o e) z.1 hq) rfl (.inr w.2)
end
section
variable {kd:PySem.Str→Option NameKind}
theorem bindL_eq {ns:List PySem.Str}{q:PySem.Str} (hk:kd q=some .local):∀ {ys:List Value}{m:PySem.Str→Option Value},ns.Nodup→bindL kd (ns.zip ys) m q=((ns.zip ys).lookup q).or (m q):=by
  induction ns with
  | nil=>exact fun _=>rfl
  | cons a r ih =>
    intro ys m nd
    have nd:=List.nodup_cons.mp nd
    cases ys with
    | nil=>rfl
    | cons y ys =>
      refine (ih nd.2).trans ?_
      by_cases e:q=a
      · subst e
        rw [List.zip_cons_cons,lookup_eq,zip_miss nd.1,if_pos hk]
        exact if_pos rfl
      · rw [List.zip_cons_cons,lookup_ne e]
        refine congrArg (Option.or _) ?_
        by_cases h:kd a=some .local
        · rw [if_pos h];exact if_neg e
        · rw [if_neg h]
theorem bindC_eq {ns:List PySem.Str}{q:PySem.Str} (hk:kd q≠some .local):∀ {ys:List Value}{m:PySem.Str→Option Value},ns.Nodup→bindC kd (ns.zip ys) m q=((ns.zip ys).lookup q).or (m q):=by
  induction ns with
  | nil=>exact fun _=>rfl
  | cons a r ih =>
    intro ys m nd
    have nd:=List.nodup_cons.mp nd
    cases ys with
    | nil=>rfl
    | cons y ys =>
      refine (ih nd.2).trans ?_
      by_cases e:q=a
      · subst e
        rw [List.zip_cons_cons,lookup_eq,zip_miss nd.1,if_neg hk]
        exact if_pos rfl
      · rw [List.zip_cons_cons,lookup_ne e]
        refine congrArg (Option.or _) ?_
        by_cases h:kd a=some .local
        · rw [if_pos h]
        · rw [if_neg h];exact if_neg e
end
theorem All2.getO {α β:Type}{R:α→β→Prop}{l:List α}{m:List β} (r:All2 R l m):∀ k:Nat,OptR R l[k]? m[k]?:=by
  induction r with
  | nil=>exact fun k=>.none
  | cons h q ih =>
    intro k
    cases k with
    | zero=>exact .some h
    | succ k=>exact ih k
theorem start_get {n k:Nat}{ws:List V}{v:Option V} (e:(startLoc n ws)[k]?=some v):v=ws[k]?:=by
  unfold startLoc at e
  by_cases q:k < ws.length
  · rw [List.getElem?_append_left (by rw [List.length_map];exact q),List.getElem?_map,List.getElem?_eq_getElem q] at e
    rw [List.getElem?_eq_getElem q]
    exact (Option.some.inj e).symm
  · have q:=Nat.not_lt.mp q
    rw [List.getElem?_append_right (by rw [List.length_map];exact q)] at e
    rw [List.getElem?_eq_none q]
    exact List.eq_of_mem_replicate (List.mem_of_getElem? e)
section
variable {G:Ctx}{t t₁:St G}{env:Env}{sl:Sl}{loc:Loc}
theorem FR.celn {k:Nat}{n:PySem.Str} (F:FR env sl loc t) (el:loc[k]?=some none) (es:sl[k]?=some (n,Pk.cel)):env.kindOf n=some .cell∧∃ c,env.cells.lookup n=some c∧c∉t.ρ∧t.h.IsCell c none :=
  F.slots.elim fun m h=>have z:=h.2 k _ _ es el (fun q=>nomatch q)
    ⟨z.1,(z.2.resolve_left fun z=>nomatch z.1).2.imp fun c r=>⟨r.1,have r:=r.2.resolve_left fun r=>r.elim fun _ r=>no_some r.1
      ⟨r.1,r.2.2.elim fun x e=>(OptR.casesOn (motive:=fun a b _=>a=none→b=none) e.2 (fun _=>rfl) (fun _ q=>no_some q.symm) rfl:x=none)▸e.1⟩⟩⟩
theorem FR.entered {t':St G}{k i:Nat}{n:PySem.Str}{c:Addr} (F:FR env sl loc t) (eh:t'.h=t.h) (eR:t'.ρ=t.ρ++[c]) (L:Later G t.ρ t.h t'.ρ t'.h) (hk:env.kindOf n=some .cell) (hc:env.cells.lookup n=some c) (hL:env.locals≠c) (hi:t'.ρ[i]?=some c) (es:sl[k]?=some (n,Pk.cel)):FR env sl (loc.set k (some (.cel i))) t' :=
  have inR:∀ a,a∉t.ρ→a≠c→a∉t'.ρ:=fun a h1 h2 m=>(mA (eR▸m)).elim h1 fun m=>h2 (mS m)
  F.slots.elim fun m h=>⟨F.ok,by rw [List.length_set];exact F.len,inR _ F.off hL,m,eh▸h.1,fun j p u e1 e2 hp=>(set_get e2).elim (fun w=>(Option.some.inj (es.symm.trans (w.1▸e1)):(n,Pk.cel)=p)▸w.2.symm▸⟨hk,.inr ⟨(fun q=>nomatch q),c,hc,.inl ⟨i,rfl,hi⟩⟩⟩) fun w =>
    have q:=h.2 j p u e1 w.2 hp
    ⟨q.1,q.2.imp (fun q=>⟨q.1,q.2.imp fun _ _=>VRel.later L⟩) fun q=>⟨q.1,q.2.imp fun d q=>⟨q.1,q.2.same L fun nd o v e _=>⟨eh▸e,inR d nd fun y=>w.1 (vis_idx F.ok.nodup hp (by decide:Pk.cel≠.hid) _ _ (show sl[j]?=some (n,p.2) by rw [← cell_name F.ok.apart q.1 (show env.cells.lookup n=some d from y.symm▸hc)];exact e1) es)⟩⟩⟩⟩⟩
theorem enter_cell {k:Nat}{n:PySem.Str} (new:∀ n c,env.cells.lookup n=some c→t.h.get? c=none) (st:Step none' t t₁) (F:FR env sl loc t₁) (el:loc[k]?=some none) (es:sl[k]?=some (n,Pk.cel)) :
    ∃ t',t'.s=t₁.s∧Step none' t t'∧t'.H=t₁.H++[.cell none]∧FR env sl (loc.set k (some (.cel t₁.H.length))) t' :=
  (F.celn el es).2.elim fun c z=>z.2.2.elim fun oc g =>
    have hL:env.locals≠c:=fun q=>F.slots.elim fun m h=>(Ns.get h.1).elim fun oL e=>e.2.2 none ((Option.some.inj (e.1.symm.trans (q▸g.1)))▸g.2)
    (St.enter (o:=.cell none) (h':=t₁.h) (tk:=t₁.s.toks) st (new n c z.1) z.2.1 (fun o e f=>by
      obtain rfl:=Option.some.inj (g.1.symm.trans e)
      unfold Frozen at f;rw [g.2] at f;exact f) (fun _ _ _ q=>q) fun L=>⟨none,z.2.2,rfl⟩).elim fun t' w =>
      ⟨t',w.2.2.2.1,w.1,w.2.1,F.entered (congrArg Shared.heap w.2.2.2.1) w.2.2.1 w.2.2.2.2.2 (F.celn el es).1 z.1 hL (w.2.2.1▸ref_last t₁) es⟩
theorem enter_cells (new:∀ n c,env.cells.lookup n=some c→t.h.get? c=none) {hc:List Nat}:∀ {loc:Loc}{t₁:St G}{Q:Loc→AH→Prop},Step none' t t₁→FR env sl loc t₁→hc.Nodup→(∀ k,k∈hc→loc[k]?=some none∧∃ n,sl[k]?=some (n,Pk.cel))→layCells hc loc t₁.H Q →
    ∃ t' loc',t'.s=t₁.s∧Step none' t t'∧Q loc' t'.H∧FR env sl loc' t':=by
  induction hc with
  | nil=>exact fun st F _ _ e=>⟨_,_,rfl,st,e,F⟩
  | cons k r ih =>
    intro loc t₁ Q st F nd h e
    have nd:=List.nodup_cons.mp nd
    refine (h k (List.mem_cons_self ..)).2.elim fun n es=>(enter_cell new st F (h k (List.mem_cons_self ..)).1 es).elim fun t' z=>?_
    refine (ih z.2.1 z.2.2.2 nd.2 (fun j m=>⟨?_,(h j (List.mem_cons_of_mem _ m)).2⟩) (z.2.2.1.symm▸e)).imp fun t'' w=>w.imp fun loc' w=>⟨w.1.trans z.1,w.2⟩
    exact (List.getElem?_set_ne fun q:k=j=>nd.1 (q▸m)).trans (h j (List.mem_cons_of_mem _ m)).1
end
section
variable {G:Ctx}{K:Frag}{I:FnInfo}{sl:Sl}{nest:Nat}{fd:FuncData}{t:St G}
theorem FdOk.slotV (X:FdOk K I sl nest fd) {ys:List Value} (hl:ys.length=I.np) {k:Nat}{q:PySem.Str × Pk} (e:sl[k]?=some q):((fd.params.args.map (·.arg)).zip ys).lookup q.1=ys[k]?:=by
  by_cases h:k < I.np
  · have hy:k < ys.length:=hl▸h
    rw [List.getElem?_eq_getElem hy]
    exact zip_get (X.args▸X.slNodup.sublist ((List.take_sublist ..).map _)) (by rw [← X.args,List.getElem?_map,List.getElem?_take_of_lt h,e];rfl) (List.getElem?_eq_getElem hy)
  · have h:=Nat.not_lt.mp h
    rw [List.getElem?_eq_none (hl▸h)]
    refine zip_miss fun m=>?_
    rw [← X.args] at m
    obtain ⟨j,hj⟩:=List.mem_iff_getElem?.mp m
    have hj':j < I.np:=Nat.lt_of_lt_of_le (gS hj).1 (by rw [List.length_map];exact List.length_take_le ..)
    rw [List.getElem?_map,List.getElem?_take_of_lt hj',← List.getElem?_map] at hj
    obtain ⟨i1,j1⟩:=gS hj
    obtain ⟨i2,j2⟩:=gS (show (sl.map (·.1))[k]?=some q.1 by rw [List.getElem?_map,e];rfl)
    exact Nat.lt_irrefl j (Nat.lt_of_lt_of_le hj' ((List.getElem_inj X.slNodup).mp (j1.trans j2.symm)▸h))
theorem frame_first (X:FdOk K I sl nest fd) {env:Env} (e_scope:env.scope=fd.scope) (e_glob:env.globals=fd.globals) (e_blt:env.builtins=fd.builtins) (cellOf:∀ n,fd.scope.names.lookup n=some .cell→∃ c,env.cells.lookup n=some c) {ys:List Value}{t₁:St G} (new:∀ z,Own env z→t.h.get? z=none) (hρ:t₁.ρ=t.ρ)
    (ns:t₁.h.Ns env.locals (bindL env.kindOf ((fd.params.args.map (·.arg)).zip ys) fun _=>none)) (cell:∀ n c,env.cells.lookup n=some c→t₁.h.IsCell c (bindC env.kindOf ((fd.params.args.map (·.arg)).zip ys) (fun _=>none) n)) (ap:env.cells.Pairwise fun x y=>x.2≠y.2)
    {ws:List V} (r:RVs t₁ ws ys) (hw:ws.length=I.np):FR env sl (startLoc I.ns ws) t₁:=by
  have nd:(fd.params.args.map (·.arg)).Nodup:=X.args▸X.slNodup.sublist ((List.take_sublist ..).map _)
  have kd:∀ n,env.kindOf n=fd.scope.names.lookup n:=fun n=>e_scope▸rfl
  refine ⟨⟨e_scope▸X.kind,e_glob.trans X.glob,e_blt.trans X.blt,X.slNodup.sublist (List.filter_sublist.map _),ap,t.sim.free0 (new _ (.inl rfl))⟩,?_,hρ▸t.sim.free (new _ (.inl rfl)),_,ns,fun k q v e1 e2 _=>?_⟩
  · unfold startLoc
    rw [List.length_append,List.length_map,List.length_replicate,hw,X.len]
    exact Nat.add_sub_cancel' X.le
  · have hs:=X.slots q (List.mem_of_getElem? e1)
    have kq:=(kd q.1).trans hs.1
    have hv:=X.slotV (r.len.symm.trans hw) e1
    have rv:OptR (RV t₁) v ys[k]?:=start_get e2▸r.getO k
    refine ⟨kq,hs.2.imp (fun h=>⟨h,?_⟩) fun h=>⟨(fun z=>nomatch h.symm.trans z),?_⟩⟩
    · rw [bindL_eq (kq.trans (h▸rfl)) nd,hv,Option.or_none]
      exact rv
    · refine (cellOf q.1 (hs.1.trans (h▸rfl))).imp fun c hc=>⟨hc,.inr ⟨hρ▸t.sim.free (new c (.inr ⟨_,hc⟩)),t.sim.free0 (new c (.inr ⟨_,hc⟩)),_,cell _ c hc,?_⟩⟩
      rw [bindC_eq (fun z=>nomatch (kq.trans (h▸rfl:_=some NameKind.cell)).symm.trans z) nd,hv,Option.or_none]
      exact rv
end
theorem env_cells {names:List (PySem.Str × NameKind)}{h:Heap}{o:Obj}{n:PySem.Str} (e:names.lookup n=some .cell):∃ c,(cellsFrom (h.objs.size+1) names []).lookup n=some c:=by
  have z:=((cellsFrom_spec names (h.push o) [] .nil fun _ m=>nomatch m).2.2.2 n (PySem.mem_of_lookup e)).imp fun c z=>z.1
  rw [Heap.size_push] at z
  exact z
section
variable {G:Ctx}{K:Frag}{I:FnInfo}{sl:Sl}{nest:Nat}{fd:FuncData}{t:St G}
theorem frame_start (X:FdOk K I sl nest fd) {env:Env} (e_scope:env.scope=fd.scope) (e_glob:env.globals=fd.globals) (e_blt:env.builtins=fd.builtins) (cellOf:∀ n,fd.scope.names.lookup n=some .cell→∃ c,env.cells.lookup n=some c) {ys:List Value}{s':Shared}
    (x:InCallC t.s env.locals (bindL env.kindOf ((fd.params.args.map (·.arg)).zip ys) fun _=>none) env.cells (bindC env.kindOf ((fd.params.args.map (·.arg)).zip ys) fun _=>none) s') {ws:List V} (r:RVs t ws ys) (hw:ws.length=I.np) {Q:Loc→AH→Prop} (e:layCells I.hc (startLoc I.ns ws) t.H Q) :
    ∃ (t':St G) (loc':Loc),t'.s=s'∧Step none' t t'∧Q loc' t'.H∧FR env sl loc' t' :=
  x.done.elim fun h' z=>z.elim fun tk z=>by
    obtain rfl:=z.1
    have own:∀ z,Own env z→t.h.get? z=none:=fun z w=>w.elim (fun w=>w▸Heap.get?_none_of_le x.toInCall.fresh) fun w=>w.elim fun n w=>Heap.get?_none_of_le (Nat.le_trans x.toInCall.fresh (Nat.le_of_lt (x.above n z (PySem.mem_of_lookup w))))
    have st:=t.grown (own:=none') z.2 tk
    have F:=frame_first (t:=t) (t₁:=t.grow z.2 tk) X e_scope e_glob e_blt cellOf own rfl x.toInCall.ns x.cell x.apart (st.later.all r) hw
    refine enter_cells (fun n c w=>own c (.inr ⟨n,w⟩)) st F X.hcNodup (fun k m=>⟨?_,(X.hc k m).2⟩) e
    have hk:=(X.hc k m).2.elim fun n w=>(gS w).1
    unfold startLoc
    rw [List.getElem?_append_right (by rw [List.length_map,hw];exact (X.hc k m).1),List.getElem?_replicate,List.length_map,if_pos (Nat.sub_lt_sub_right (hw▸(X.hc k m).1) (X.len▸hk))]
end
structure Pg (G:Ctx) (K:Frag):Prop where
  F:Facts G K
  D:Dfs G K
  lim:G.h₀.NoLimit
  fns:∀ f:Fn,Nat.blt f 54=true→∃ (fd:FuncData) (sl:Sl) (o:Obj),K.lookup f.addr=some o∧o.data = .func fd∧FdOk K (infoOf f) sl 2 fd
theorem Room.deeper {A:Around}{n m:Nat}{env:Env} (R:Room A n) (h:m+3≤n):Room (A.deeper env) m :=
  have z:∀ {k},k≤3→∀ a,a+k+m≤a+n:=fun {k} hk a=>Nat.add_assoc a k m▸Nat.add_le_add_left (Nat.le_trans (Nat.add_comm m k▸Nat.add_le_add_left hk m) h) a
  ⟨R.handled,R.guards,Nat.lt_of_le_of_lt (z (by decide) _) R.depth,Nat.lt_of_le_of_lt (z (by decide) _) R.units⟩
section
variable {G:Ctx}{K:Frag}{t t₁:St G}
theorem leave_ok {env:Env}{sl:Sl}{K':V→AH→Prop}{R:Result→Shared→Prop} (st:Step none' t t₁) (own:∀ z,Own env z→t.h.get? z=none∨z∈t.ρ) (hq:To RV t K' (fun y s'=>R (.ok (.ret y)) s')) :
    Aim env sl t₁ (fun _ H=>K' .none H) K' (fun _ _=>False) (fun f s'=>R (.ok (.ret (match f with | .ret v=>v | _=>.none))) s') :=
  have all:∀ {t₂:St G},Step (Own env) t₁ t₂→Step none' t t₂:=fun b=>have z:=st.any.trans b
    ⟨z.later,z.fresh,fun a o e n _=>z.keep a o e n fun w=>(own a w).elim (fun q=>nomatch q.symm.trans e) n,z.alive,z.rest⟩
  ⟨fun t₂ _ st₂ e _=>hq t₂ _ _ (all st₂) e .none,fun t₂ v x st₂ e r=>hq t₂ v x (all st₂) e r,fun _ _ _ e _=>e.elim⟩
theorem FdOk.bindKind {I:FnInfo}{sl:Sl}{nest:Nat}{fd:FuncData} (X:FdOk K I sl nest fd) {ys:List Value}{h:Heap}{y:PySem.Str × Value} (hy:y∈(fd.params.args.map (·.arg)).zip ys) :
    fd.scope.names.lookup y.1=some .local∨(fd.scope.names.lookup y.1=some .cell∧((cellsFrom (h.objs.size+1) fd.scope.names []).lookup y.1).isSome=true) :=
  (List.mem_map.mp (X.args.symm▸(List.of_mem_zip (show (y.1,y.2)∈_ from hy)).1:y.1∈(sl.take I.np).map (·.1))).elim fun q z =>
    have s:=X.slots q (List.mem_of_mem_take z.1)
    have s1:fd.scope.names.lookup y.1=some q.2.kind:=z.2▸s.1
    s.2.imp (fun w:q.2 = .loc=>s1.trans (w▸rfl)) fun w:q.2 = .cel=>have s2:fd.scope.names.lookup y.1=some .cell:=s1.trans (w▸rfl);⟨s2,(env_cells (o:={ cls:=.type "frame",data:=.dict #[] }) s2).elim fun c e=>e▸rfl⟩
theorem fn_body (P:Pg G K) {O:Orc}{D₀:Nat} (FO:FnOk G O D₀) (CO:CloOk G O D₀) {I:FnInfo}{sl:Sl}{fd:FuncData}{body:List Stmt} (X:FdOk K I sl 2 fd) (hb:chkSs K ⟨fd.scope.names,sl,2⟩ I.body body=true) {A:Around}{env:Env} (e_scope:env.scope=fd.scope) (e_code:env.code=fd.code) (e_qual:env.qual=fd.qualname++".<locals>.")
    (Rm:Room A (D₀+50)) {loc:Loc}{E:Value→Shared→Prop} (st:Step none' t t₁) (own:∀ z,Own env z→t.h.get? z=none) (live:∀ n c,env.cells.lookup n=some c→∃ o,t₁.h.get? c=some o) (F:FR env sl loc t₁) {K':V→AH→Prop}{R:Result→Shared→Prop} (e:evSs O I.body loc t₁.H (fun _ H=>K' .none H) K' fun _ _=>False)
    (hq:To RV t K' (fun y s'=>R (.ok (.ret y)) s')):wpAny (model pw G.w) A (execs body env) (fun f s'=>R (.ok (.ret (match f with | .ret v=>v | _=>.none))) s') E t₁.s :=
  ssok (X:=⟨G,K,O,D₀+10,P.F⟩) ⟨Nat.le_refl _,FO,CO⟩ P.D I.body ⟨⟨fd.scope.names,sl,2⟩,A,env,E⟩ body loc t₁ _ _ _ _ hb ⟨⟨e_scope▸rfl,Rm,F⟩,live,fun q=>have z:=X.dfc q;⟨e_code.trans z.1,e_qual.trans z.2⟩⟩ e (leave_ok st (fun z w=>.inl (own z w)) hq)
theorem nthD_over {α:Type}{d:α}{l:List α}:∀ {n:Nat},l.length≤n→nthD d l n=d:=by
  induction l with
  | nil=>exact fun _=>rfl
  | cons a r ih =>
    intro n h
    cases n with
    | zero=>exact absurd h (Nat.not_succ_le_zero _)
    | succ n=>exact ih (Nat.le_of_succ_le_succ h)
theorem fn_over {f:Fn}{O:Orc}{vs:List V}{H:AH}{K:V→AH→Prop} (h:Nat.blt f 54=false) (e:runFn O (infoOf f) vs H K):False:=by
  rw [show infoOf f={ np:=0,ns:=0,body:=[.stuck] } from nthD_over (Nat.not_lt.mp fun q=>Bool.false_ne_true (h.symm.trans (Nat.ble_eq.mpr q)))] at e
  exact e.2
theorem fn_step (P:Pg G K) {O O':Orc}{D₀:Nat} (FO:FnOk G O D₀) (CO:CloOk G O D₀) (hO:O'.fn=fun f vs=>runFn O (infoOf f) vs):FnOk G O' (D₀+53):=by
  intro f vs xs A t K' R Rm r e hq
  rw [hO] at e
  cases hf:Nat.blt f 54 with
  | false=>exact (fn_over hf e).elim
  | true =>
    refine (P.fns f hf).elim fun fd z=>z.elim fun sl z=>z.elim fun o z=>(binds_ok P.F z.2.2 r e.1).elim fun ys b=>z.2.2.body.elim fun body hb=>?_
    have hin:=P.F.here t
    refine codeAny_call_function Rm.d (hin _ _ z.1) z.2.1 z.2.2.co z.2.2.gen hb.1 (codeRec_of hin z.2.2.code) (b.2 _ _ _ _ ?_)
    rw [z.2.2.clo]
    refine wpAny_newFunctionEnv_cells z.2.2.kind (fun y hy=>z.2.2.bindKind hy) fun env he s₁ x=>?_
    subst he
    have own:∀ w,Own (callEnvC fd t.s.heap.objs.size f.addr) w→t.h.get? w=none:=fun w m=>Heap.get?_none_of_le (m.elim (fun m=>m▸x.toInCall.fresh) fun m=>m.elim fun n m=>Nat.le_trans x.toInCall.fresh (Nat.le_of_lt (x.above n w (PySem.mem_of_lookup m))))
    refine (frame_start z.2.2 rfl rfl rfl (fun n q=>env_cells (o:={ cls:=.type "frame",data:=.dict #[] }) q) x b.1 e.1 e.2).elim fun t' w=>w.elim fun loc' w=>?_
    refine ⟨((P.lim.at fun o e=>t.sim.base _ o e (by decide)).keeps x.toInCall.keep),codeAny_func ?_⟩
    obtain rfl:=w.1
    exact fn_body P FO CO z.2.2 hb.2 rfl rfl rfl (Rm.deeper (Nat.le_refl _)) w.2.1 own (fun n c m=>(x.cell n c m).imp fun _ e=>e.1) w.2.2.2 w.2.2.1 hq
end
noncomputable def O0:Orc:=⟨fun _ _ _ _=>False,fun _ _ _ _=>False⟩
section
variable {G:Ctx}{K:Frag}{t:St G}
theorem All2.at {α β:Type}{R:α→β→Prop}{l:List α}{m:List β} (q:All2 R l m) {k:Nat}{p:α}{v:β} (e1:l[k]?=some p) (e2:m[k]?=some v):R p v:=by
  have z:=q.getO k
  rw [e1,e2] at z
  cases z;assumption
theorem ne_mi:(sMarks == sIndex)=false:=by decide +kernel
theorem marks_look {x1 x2:Value}:([(sIndex,x2),(sMarks,x1)]:List (PySem.Str × Value)).lookup sMarks=some x1:=by
  rw [List.lookup_cons,ne_mi,lookup_eq]
theorem clo_frame {fd:FuncData}{body:List Stmt}{a:Addr}{i j:Nat}{v1 v2:V}{x1 x2:Value}{h₀:Heap} (c:CloAt G t.ρ t.h [i,j] a fd) (T:CloTx K fd.params body fd.scope) (hg:fd.globals=mainGlobals) (hb:fd.builtins=builtinsNs) (r1:RV t v1 x1) (r2:RV t v2 x2)
    (hns:h₀.Ns t.s.heap.objs.size fun x=>([(sIndex,x2),(sMarks,x1)]:List (PySem.Str × Value)).lookup x) (kp:∀ b o,t.h.get? b=some o→h₀.get? b=some o) (tk:Nat):FR (callEnv fd t.s.heap.objs.size a) pasSl [some v1,some v2,some (.cel i),some (.cel j)] (t.grow kp tk) :=
  have st:=t.grown (own:=none') kp tk
  have nw:=t.sim.fresh (new_none t.h)
  have w:All2 (SlotR (callEnv fd t.s.heap.objs.size a) (fun x=>([(sIndex,x2),(sMarks,x1)]:List (PySem.Str × Value)).lookup x) (t.grow kp tk)) pasSl [some v1,some v2,some (.cel i),some (.cel j)] :=
    .cons (fun _=>⟨T.marks,.inl ⟨rfl,by show OptR _ _ (List.lookup sMarks _);rw [marks_look];exact .some (r1.later st.later)⟩⟩) (.cons (fun _=>⟨T.index,.inl ⟨rfl,by show OptR _ _ (List.lookup sIndex _);rw [lookup_eq];exact .some (r2.later st.later)⟩⟩)
      (.cons (fun _=>⟨T.stale,.inr ⟨(fun z=>nomatch z),(c.cls.at (k:=0) rfl rfl).imp fun _ e=>⟨e.2,.inl ⟨i,rfl,e.1⟩⟩⟩⟩) (.cons (fun _=>⟨T.whole,.inr ⟨(fun z=>nomatch z),(c.cls.at (k:=1) rfl rfl).imp fun _ e=>⟨e.2,.inl ⟨j,rfl,e.1⟩⟩⟩⟩) .nil)))
  ⟨⟨T.kind,hg,hb,(by decide +kernel:(vis pasSl).Nodup),c.good.apart,nw.2⟩,rfl,nw.1,_,hns,fun k p v e1 e2=>w.at e1 e2⟩
theorem clo_look (D:Dfs G K) {fd:FuncData} (h:G.look fd=true):(∃ body,fd.body = .stmts body∧CloTx K fd.params body fd.scope)∧fd.globals=mainGlobals∧fd.builtins=builtinsNs∧fd.defaults = .none :=
  have h:lookFd K fd=true:=D.look▸h
  ⟨(onStmts_elim (andL h)).imp fun _ e=>⟨e.1,cloParts_ok e.2⟩,eq_of_beq (andL (andR h)),eq_of_beq (andL (andR (andR h))),eq_of_beq (andL (andR (andR (andR h))))⟩
theorem clo_body (P:Pg G K) {v:Expr}{pos:Pos}{p:Pt}{names:List (PySem.Str × NameKind)} (hp:p.c=⟨names,pasSl,0⟩) (hv:chkE K ⟨names,pasSl,0⟩ pasE v=true) {loc:Loc} (o:OnF ⟨G,K,O0,10,P.F⟩ p loc t) {N Ct:Loc→AH→Prop}{R:V→AH→Prop}{Q:PySem.Flow→Shared→Prop} (e:evSs O0 [.ret pasE] loc t.H N R Ct)
    (hq:Aim p.env p.c.sl t N R Ct Q):wpAny (model pw G.w) p.A (execs [.Return (some v) pos] p.env) Q p.E t.s:=by
  have Y:Ok ⟨G,K,O0,10,P.F⟩ 0:=⟨Nat.le_refl _,fun _ _ _ _ _ _ _ _ _ e _=>e.elim,fun _ _ _ _ _ _ _ _ _ _ _ _ e _=>e.elim⟩
  refine ss_cons (s_ret (eok Y pasE)) ss_nil p _ loc t N R Ct Q ?_ o e hq
  show ((chkE K p.c pasE v || _) && true)=true
  rw [hp,hv]
  rfl
theorem len2 {α:Type}{l:List α}{C:List α→Prop} (h:l.length=2) (f:∀ a b,C [a,b]):C l:=by
  cases l with
  | nil=>exact absurd h (fun q=>nomatch q)
  | cons a l=>cases l with
    | nil=>exact absurd (Nat.succ.inj h) (fun q=>nomatch q)
    | cons b l=>cases l with
      | nil=>exact f a b
      | cons c l=>exact absurd (Nat.succ.inj (Nat.succ.inj h)) (Nat.succ_ne_zero _)
theorem clo_step (P:Pg G K) {O:Orc}{F:Fn→List V→CM V} (hO:O.clo=runClo F):CloOk G O 20:=by
  intro cells vs a fd xs A t K' R Rm c r e hq
  rw [hO] at e
  have L:=clo_look P.D c.good.ok
  revert r c
  refine len2 (C:=fun cells=>runClo F cells vs t.H K'→CloAt G t.ρ t.h cells a fd→RVs t vs xs→_) e.1.2 (fun i j e c=>?_) e
  refine len2 (C:=fun vs=>runClo F [i,j] vs t.H K'→RVs t vs xs→_) e.1.1 (fun v1 v2 e r=>r.two (C:=fun xs=>codeAny _ _ (.call _ ⟨xs,[]⟩) _ _) fun x1 x2 r1 r2=>L.1.elim fun body B=>B.2.body.elim fun v z=>z.elim fun pos z=>?_) e
  have T:=B.2
  have hn:(fd.params.args.map (·.arg)).length=2:=T.args▸rfl
  have nd:(fd.params.args.map (·.arg)).Nodup:=by rw [T.args];decide +kernel
  have Bi:BindsTo t.s fd ⟨[x1,x2],[]⟩ ([sMarks,sIndex].zip [x1,x2]):=by
    have b:=bind_ok (s:=t.s) (fd:=fd) (xs:=[x1,x2]) (ds:=[]) (o:=none) T.par (fun M A E Q hq=>by rw [L.2.2.2];exact wpAny_pure hq) rfl nd (.inl rfl) (hn▸by decide) (by rw [hn];rfl)
    rw [hn,T.args] at b
    exact b
  refine c.fn.elim fun o ho=>c.code.elim fun cd hc=>hc.2.1.elim fun oc hoc=>hoc.2.2.elim fun cv hcv=>hcv.2.elim fun tq hq1=>?_
  refine codeAny_call_def Rm.d ho.1 ho.2.2 (P.lim.at fun o e=>t.sim.base _ o e (by decide)) ⟨cd,oc,cv,tq,hc.1,hoc.1,hcv.1,hq1⟩ B.1 Bi T.cells (fun x m=>?_) (fun h₀ hns kp=>?_) T.co T.gen T.kind
  · exact (mZ m).elim (fun q=>q▸T.marks) fun m=>mS m▸T.index
  · have F:=clo_frame c T L.2.1 L.2.2.1 r1 r2 hns kp (t.s.toks+2)
    have st:=t.grown (own:=none') kp (t.s.toks+2)
    have inR:∀ n z,fd.closure.lookup n=some z→z∈t.ρ:=fun n z m=>(c.good.only (n,z) (PySem.mem_of_lookup m)).elim (fun q=>(c.cls.at (k:=0) rfl rfl).elim fun y e=>(Option.some.inj (e.2.symm.trans q):y=z)▸List.mem_of_getElem? e.1) fun q=>(c.cls.at (k:=1) rfl rfl).elim fun y e=>(Option.some.inj (e.2.symm.trans q):y=z)▸List.mem_of_getElem? e.1
    refine z.1▸clo_body (t:=t.grow kp (t.s.toks+2)) P (p:=⟨⟨fd.scope.names,pasSl,0⟩,A.deeper (callEnv fd t.s.heap.objs.size a),callEnv fd t.s.heap.objs.size a,_⟩) rfl z.2 ⟨⟨rfl,Rm.deeper (show 10+20 * 0+3≤20 by decide),F⟩,fun n y m=>(t.grow kp (t.s.toks+2)).sim.live (inR n y m),fun q=>nomatch (T.stale.symm.trans q)⟩ (show evSs O0 [.ret pasE] _ _ _ _ _ from e.2) (leave_ok st (fun z w=>w.elim (fun w=>.inl (w▸new_none t.h)) fun w=>w.elim fun n w=>.inr (inR n z w)) hq)
theorem calls_ok (P:Pg G K) (d:Nat):FnOk G (orc d) (53 * d+20):=by
  induction d with
  | zero=>exact fun _ _ _ _ _ _ _ _ _ e _=>e.elim
  | succ d ih=>exact fn_step P ih (fun cells vs a fd xs A t K R Rm=>clo_step P rfl cells vs a fd xs A t K R (Rm.le (Nat.le_add_left ..))) rfl
end
noncomputable def slTab:List (List String):=[
  ["text","numbers","number"],
  ["octets","found","octet"],
  ["number","many"],
  ["self","size"],
  ["self","octets","content"],
  ["self"],
  ["self"],
  ["self","rank","what","at","above"],
  ["self","first","last"],
  ["self","at","many","least","below"],
  ["self","parents","tree","date"],
  ["ids","known","found","oid"],
  ["flags","index"],
  ["self","store","shallow","oid"],
  ["self","oid","commit","parents"],
  ["self","oid"],
  ["self","oid"],
  ["self","oid","waiting","here","parents","left"],
  ["self","begun","passed","flags","order","queue","oid","marks","index","parent"],
  ["self","one","other","least","seen","waiting","here","parent"],
  ["self","groups","whole","stale","begun","number","ids","passed","order","flags"],
  ["self","one","other"],
  ["self","ids"],
  ["self","ids","some","begun","oid","flags"],
  ["self","one","other","order","flags","ahead"],
  ["self","name","email","when","zone"],
  ["self"],
  ["self","entries"],
  ["self","parts","entry"],
  ["tree","found","known","ahead","entry","odd"],
  ["tree","found"],
  ["self","tree","parents","author","committer","extra","message"],
  ["self","parts","oid","key","value"],
  ["kind","content"],
  ["self","hasher"],
  ["self","kind","content","thing","oid"],
  ["self","tree"],
  ["self","commit"],
  ["self","oid"],
  ["self","oid","kind","told","thing"],
  ["self","oid"],
  ["script","cells","mixed","cell"],
  ["deck","below","figure","cell"],
  ["deck","some"],
  ["deck","most","rows","k","left","row","turn"],
  ["deck","many","way"],
  ["rows","border","found","k","row","some","j","x"],
  ["deck"],
  ["w","row","moment","author","person","note","oid"],
  ["reached","common"],
  ["w","walk","reached","a","b","ids","common","due","told","near","far"],
  ["deck","w","walk","reached","ids","lot","common","due","once","alone"],
  ["deck","w","many","border","walk","reached","k","due"],
  ["script","deck","store","w","rows","row","moment","many","walk","reached","k","pairs","a","b"]]
noncomputable def slOf (f:Fn) (fd:FuncData):Sl:=(nthD [] slTab f).map fun n=>(PySem.Str.ofString n,if fd.scope.names.lookup (PySem.Str.ofString n) == some .cell then Pk.cel else .loc)
noncomputable def onFunc (d:Data) (p:FuncData→Bool):Bool:=match d with
  | .func fd=>p fd
  | _=>false
noncomputable def onFields (d:Data) (p:Array Value→Bool):Bool:=match d with
  | .fields vs=>p vs
  | _=>false
noncomputable def fnOkIn (K:Frag) (f:Fn):Bool:=onSome (K.lookup f.addr) fun o=>onFunc o.data fun fd=>fdChk K (infoOf f) (slOf f fd) 2 fd
noncomputable def isStrV (v:Value):Bool:=match v with | .str _ _=>true | _=>false
noncomputable def isIntV (v:Value):Bool:=match v with | .int _ _=>true | _=>false
noncomputable def isBoolV (v:Value):Bool:=match v with | .bool _=>true | _=>false
noncomputable def hdIn (K:Frag):Bool:=onSome (K.lookup tabC) fun o=>(o.cls == .type "code") && onFields o.data fun vs=>(vs[11]? == some (.ref tabA)) && ((vs.getD 11 .none == .ref tabA) && (isStrV (vs.getD 18 .none) && (isIntV (vs.getD 7 .none) && (isBoolV (vs.getD 9 .none) && isIntV (vs.getD 10 .none)))))
noncomputable def chkK (K:Frag):Bool:=hdIn K && ((K.lookup tabA).isNone && ((K.lookup sysModules).isSome && ((nsIn K mainGlobals (PySem.Str.ofString "law") == some (some (.ref Fn.law.addr))) && (clsAll.all (fun c=>clsOk K c && keepIn K (.ref c.addr)) && (List.range 54).all (fun f=>keepIn K (.ref (Fn.addr f)) && fnOkIn K f)))))
noncomputable def fragOf (as:List Addr) (h:Heap):Frag:=as.filterMap fun a=>(h.get? a).map (a,·)
noncomputable def tabBare (h:Heap):Bool:=onSome (h.get? tabA) fun o=>(o.cls == .none) && (o.dict.isNone && (onFields o.data (fun vs=>vs.toList.isEmpty) && o.slots.toList.isEmpty))
noncomputable def kAddrs:List Addr:=[3,0,108,107,157,156,178,177,519,518,560,559,602,601,658,657,806,805,1,70,71,77,78,82,83,91,97,98,104,105,125,126,132,133,139,140,146,147,153,154,174,175,188,189,195,196,211,212,218,219,225,226,232,233,239,240,251,252,258,259,270,271,273,274,289,290,296,297,301,302,306,307,311,312,321,322,378,379,549,550,556,557,584,585,591,592,612,613,619,620,640,641,647,648,668,669,682,683,689,690,703,704,710,711,745,746,766,767,787,788,814,815,821,822,828,829,835,836,840,841,847,848,854,855,859,860,864,865,869,870,874,875,879,880,884,885]
noncomputable def Xt1:Shared→Bool:=fun s=>tabBare s.heap && chkK (fragOf kAddrs s.heap)
theorem fragOf_in {h:Heap}{as:List Addr}:(fragOf as h).In h:=by
  induction as with
  | nil=>exact fun a o e=>no_some e
  | cons b r ih =>
    intro a o e
    unfold fragOf at e
    rw [List.filterMap_cons] at e
    cases q:h.get? b with
    | none=>rw [q] at e;exact ih a o e
    | some x =>
      rw [q] at e
      have e:List.lookup a ((b,x) :: fragOf r h)=some o:=e
      by_cases z:a=b
      · subst z
        rw [List.lookup_cons,beq_self_eq_true] at e
        exact q.trans e
      · rw [List.lookup_cons,show (a == b)=false from beq_eq_false_iff_ne.mpr z] at e
        exact ih a o e
theorem onFields_elim {d:Data}{p:Array Value→Bool} (h:onFields d p=true):∃ vs,d = .fields vs∧p vs=true:=by
  cases d with
  | fields vs=>exact ⟨vs,rfl,h⟩
  | _=>exact absurd h Bool.false_ne_true
theorem onFunc_elim {d:Data}{p:FuncData→Bool} (h:onFunc d p=true):∃ fd,d = .func fd∧p fd=true:=by
  cases d with
  | func fd=>exact ⟨fd,rfl,h⟩
  | _=>exact absurd h Bool.false_ne_true
theorem isStrV_ok {v:Value} (h:isStrV v=true):∃ s t,v = .str s t:=by
  cases v with
  | str s t=>exact ⟨s,t,rfl⟩
  | _=>exact absurd h Bool.false_ne_true
theorem isIntV_ok {v:Value} (h:isIntV v=true):∃ s t,v = .int s t:=by
  cases v with
  | int s t=>exact ⟨s,t,rfl⟩
  | _=>exact absurd h Bool.false_ne_true
theorem isBoolV_ok {v:Value} (h:isBoolV v=true):∃ s,v = .bool s:=by
  cases v with
  | bool s=>exact ⟨s,rfl⟩
  | _=>exact absurd h Bool.false_ne_true
theorem lookE {K:Frag}{a:Addr}{p:Obj→Bool} (h:onSome (K.lookup a) p=true):∃ o,K.lookup a=some o∧p o=true:=some_elim (C:=fun u=>∃ o,u=some o∧p o=true) h fun o e=>⟨o,rfl,e⟩
theorem hdIn_ok {K:Frag}{h:Heap} (X:K.In h) (e:hdIn K=true):CodeHd h tabC tabA :=
  (lookE e).elim fun o z=>(onFields_elim (andR z.2)).elim fun vs w=>(isStrV_ok (andL (andR (andR w.2)))).elim fun x4 h4=>h4.elim fun t4 h4=>(isIntV_ok (andL (andR (andR (andR w.2))))).elim fun x5 h5=>h5.elim fun t5 h5=>(isBoolV_ok (andL (andR (andR (andR (andR w.2)))))).elim fun x6 h6 =>
    (isIntV_ok (andR (andR (andR (andR (andR w.2)))))).elim fun x7 h7=>h7.elim fun t7 h7=>⟨o,vs,x4,t4,x5,t5,x6,x7,t7,X _ _ z.1,eq_of_beq (andL z.2),w.1,eq_of_beq (andL w.2),eq_of_beq (andL (andR w.2)),h4,h5,h6,h7,tab_ne.1⟩
theorem tabBare_ok {h:Heap} (e:tabBare h=true):h.get? tabA=some (tabObj #[]) :=
  some_elim (C:=fun u=>u=some (tabObj #[])) e fun o e=>(onFields_elim (andL (andR (andR e)))).elim fun vs w=>congrArg some (congr (congr (congr (congrArg Obj.mk (eq_of_beq (andL e))) (Option.isNone_iff_eq_none.mp (andL (andR e)))) (w.1.trans (congrArg Data.fields (Array.toList_inj.mp (List.isEmpty_iff.mp w.2))))) (Array.toList_inj.mp (List.isEmpty_iff.mp (andR (andR (andR e))))))
theorem pg_of {K:Frag}{w:World}{h:Heap}{mg:PySem.Str→Option Value} (X:K.In h) (e:chkK K=true) (hns:h.Ns mainGlobals mg) (hb:h.BuiltinsAt mg tabA) (hlim:h.NoLimit) (hs:∃ m,h.get? sysModules=some m):Pg ⟨h,lookFd K,w,hs⟩ K :=
  have c:=fun c=>List.all_eq_true.mp (andL (andR (andR (andR (andR e))))) c (clsAll_mem c)
  have f:=fun (f:Fn) (q:Nat.blt f 54=true)=>List.all_eq_true.mp (andR (andR (andR (andR (andR e))))) f (List.mem_range.mpr (Nat.le_of_ble_eq_true q))
  ⟨⟨X,fun a o q z=>no_some ((Option.isNone_iff_eq_none.mp (andL (andR e))).symm.trans (z▸q)),fun k=>clsF_of (andL (c k)),fun g q=>andL (f g q),fun k=>andR (c k)⟩,⟨rfl,⟨mg,hns,hb⟩,hdIn_ok X (andL e)⟩,hlim,
    fun g q=>(lookE (andR (f g q))).elim fun o z=>(onFunc_elim z.2).elim fun fd w=>⟨fd,slOf g fd,o,z.1,w.1,fdChk_ok w.2⟩⟩
noncomputable def PlainLaw:Prop:=∀ l:List Int,l.length≤63→callN 12 Fn.law [.flist (l.map .int)] [.tab false] fun v H'=>v = .bool true∧∃ b,H'[0]?=some (.tab b)
noncomputable def XP1:(PySem.Str→Option Value)→Heap→Prop:=fun _ h=>(∃ K:Frag,K.In h∧chkK K=true)∧h.get? tabA=some (tabObj #[])
theorem xp_of (s:Shared) (e:Xt1 s=true):XP1 (s.heap.nsMap mainGlobals) s.heap:=⟨⟨_,fragOf_in (as:=kAddrs),andR e⟩,tabBare_ok (andL e)⟩
theorem xp_keeps (mg:PySem.Str→Option Value) (h h':Heap) (x:XP1 mg h) (k:∀ b o,h.get? b=some o→h'.get? b=some o):XP1 mg h':=⟨x.1.imp fun _ e=>⟨e.1.keeps k,e.2⟩,k _ _ x.2⟩
theorem ints_rel {G:Ctx}{ρ:List Addr}{h:Heap}{xs:List Value}{l:List Int} (hI:IntsAre xs l):All2 (VRel G ρ h) (l.map V.int) xs:=by
  induction hI with
  | nil=>exact .nil
  | cons n t _ ih=>exact .cons (.int n t) ih
section
variable {K:Frag}{w:World}{s:Shared}{mg:PySem.Str→Option Value}{a:Addr}{xs:List Value}{l:List Int}
theorem law_sim {G:Ctx}{h:Heap} (hG:G.h₀=h) (htab:h.get? tabA=some (tabObj #[])):Sim G [tabA] [.tab false] h :=
  ⟨rfl,List.pairwise_singleton _ _,fun i o b e1 e2=>by
    cases i with
    | zero=>exact Option.some.inj e1▸Option.some.inj e2▸⟨rfl,.inl ⟨rfl,htab⟩⟩
    | succ i=>exact no_some e1,fun b o e _=>hG▸e,fun b m=>.inl (mS m),List.mem_singleton.mpr rfl⟩
structure SameW (s s':Shared):Prop where
  gens:s'.gens=s.gens
  os:s'.os=s.os
theorem orc_fn (d:Nat):(orc d).fn=callN d:=rfl
theorem law_walk (PL:PlainLaw) (X:K.In s.heap) (hchk:chkK K=true) (htab:s.heap.get? tabA=some (tabObj #[])) (hns:s.heap.Ns mainGlobals mg) (hb:s.heap.BuiltinsAt mg tabA) (hlim:s.heap.NoLimit) (hl:s.heap.IsList a xs.toArray) (hI:IntsAre xs l) (hlen:l.length≤63) {Q E':Value→Shared→Prop}
    (hq:∀ s',(∀ b o,s.heap.get? b=some o→b≠tabA→s'.heap.get? b=some o)→(∃ ps,s'.heap.get? tabA=some (tabObj ps))→SameW s s'→Q (.bool true) s') :
    wpAny (model pw w) callerA (call (.ref Fn.law.addr) [.ref a]) Q E' s:=by
  have hs:∃ m,s.heap.get? sysModules=some m:=(Option.isSome_iff_exists.mp (andL (andR (andR hchk)))).imp fun m e=>X _ _ e
  have P:=pg_of (w:=w) X hchk hns hb hlim hs
  have S:Sim ⟨s.heap,lookFd K,w,hs⟩ [tabA] [.tab false] s.heap:=law_sim rfl htab
  have r:VRel ⟨s.heap,lookFd K,w,hs⟩ [tabA] s.heap (.flist (l.map .int)) (.ref a):=.flist hl (fun _ e=>e) (fun m=>hl.elim fun o e=>by
    have e1:=e.1
    rw [mS m,htab] at e1
    exact nomatch (show Value.none = .type "list" from (congrArg Obj.cls (Option.some.inj e1)).trans e.2.1)) (ints_rel hI)
  have R:Room callerA (53 * 12+20):=⟨rfl,rfl,by decide,by decide⟩
  have e:=PL l hlen
  rw [← orc_fn] at e
  refine FnOk.call (calls_ok P 12) (t:=⟨[tabA],[.tab false],s,S⟩) R (.cons r .nil) e fun t' v y st e r'=>?_
  rw [e.1] at r'
  rw [r'.isBool]
  refine hq t'.s (fun b o q n=>st.keep b o q (fun m=>n (mS m)) id) (e.2.elim fun b h0=>?_) ⟨show t'.s.gens=s.gens by rw [st.rest],show t'.s.os=s.os by rw [st.rest]⟩
  exact (St.tab (X:=⟨⟨s.heap,lookFd K,w,hs⟩,K,O0,0,P.F⟩) t' h0).2.2.elim (fun z=>⟨_,z.2⟩) fun z=>z.2.elim fun cd z=>⟨_,z.1⟩
noncomputable abbrev claimL:ClaimW:=PySem.Challenge.rw_nt0311_01.row.claim
theorem law_end (PL:PlainLaw) {s₀ s₁:Shared}{mb:PySem.Str→Option Value}{q:Program}{loose:List PySem.Str}{R:WRecords} (Gr:Ground q loose R XP1 w s₀ mg mb s₁.heap) {fa:Addr}{args:List WData}
    (hmg:mg (PySem.Str.ofString "law")=some (.ref fa)) (hg:s₁.gens=#[]) (hL:s₁.heap.IsList a xs.toArray) (hI:IntsAre xs l) (hlen:l.length≤63) {E':Value→Shared→Prop} :
    wpAny (model pw w) callerA (call (.ref fa) [.ref a]) (fun v s'=>GoodWG claimL (classAt s₀.heap) (ExcName.means s₀.heap) args s₁ (.ok (.ret v)) s') E' s₁:=by
  obtain ⟨⟨K,X,hchk⟩,htab⟩:=Gr.X
  have T:=Gr.T
  obtain ⟨bm,ob,b1,b2,b3,b4,b5,b6⟩:=T.bmain
  have hbP:bm≠tabA:=fun z=>by rw [z,htab] at b3;cases b3;cases b4
  have hbG:bm≠mainGlobals:=fun z=>by
    obtain ⟨o,es,ep,e,hd,_⟩:=T.g
    rw [z,e] at b3;cases b3;rw [hd] at b6;cases b6
  obtain rfl:fa=Fn.law.addr:=Value.ref.inj (Option.some.inj (hmg.symm.trans (mg_of X T.g (eq_of_beq (andL (andR (andR (andR hchk))))))))
  have CH:=hdIn_ok X (andL hchk)
  refine law_walk PL X hchk htab T.g ⟨bm,ob,b1,b2,hbG,hbP,b3,b4,b5,b6⟩ T.nolimit hL hI hlen fun s' keep tb rest=>?_
  refine ⟨.inl ⟨_,.bool true,[],rfl,fun _=>rfl,.bool true,?_,fun _=>⟨List.nodup_nil,fun _ m=>nomatch m⟩⟩,⟨fun b o e=>?_,fun b o e=>?_⟩,rest.os,.of_eq (rest.gens.trans hg)⟩
  · exact postW_of (by wrow_shape) (by wtm_val) (by w_fin)
  · by_cases hb:b=tabA
    · refine .inr (.inl (tb.elim fun ps hps=>hb▸?_))
      have e':=htab.symm.trans (hb▸e)
      exact Option.some.inj e'▸⟨(CH.tab htab).isCodeTable,rfl,#[],ps,rfl,by rw [hps];simp⟩
    · exact .inl (keep b o e hb)
  · by_cases hb:b=tabA
    · exact tb.elim fun ps hps=>⟨_,hb▸hps⟩
    · exact ⟨o,keep b o e hb⟩
end
theorem run_ok1:∀ (w:World) (os:OsState),(topRunT treeTable pw w 11 ann0 6300 (boot w os) (topStub pw)).map (fun s=>looksAt qv looseL Xt1 w s.abs)=some (true,openGood qv looseL):=by
  intro w os
  rw [topRunQ_eq]
  kernel_rfl
end Mine
end
open PySem PySem.W PyProof.Rows PySem.Calls
theorem Mine.law_true:Mine.PlainLaw:=fun l hl=>Mine.Pl.law_ok (d:=0) (fun g h=>Mine.Pl.fam_good h) l (Nat.le_trans hl (by unfold Mine.lim;decide))
set_option maxRecDepth 100000 in
set_option maxHeartbeats 0 in
theorem PySem.Challenge.cw_nt0311_01_holds : PySem.Challenge.rw_nt0311_01.Holds := by
  w_on
  refine holds_law (by kernel_rfl) fun said=>?_
  refine holds_open (q:=Mine.qv) (loose:=Mine.looseL) (Xt:=Mine.Xt1) (XP:=Mine.XP1) (Yf:=fun _=>()) (Ya:=fun _=>()) (YP:=fun _ _=>True) (N:=7000) ?hl (fun _ _ _=>trivial) (fun _ _ _ _ _=>trivial) Mine.xp_of Mine.xp_keeps (by rfl) (by rfl) (by rfl) ?hrf (by rfl) (by first | assumption | decide +kernel) (by decide +kernel) ⟨rfl,rfl,rfl,rfl,rfl,by decide +kernel⟩ ?hw ?hc
  case hl=>exact Mine.left_of_tree (by rfl) (by rfl) (by intro s;rfl) (by rfl) Mine.run_ok1
  case hw=>w_witness2
  case hrf =>
    exact fun s _=>recFacts_nil rfl
  case hc =>
    intro w s₀ s₁ mg mb G Y fa o pm cd doc dV kV ho hd hcd hD hmg hg args vals as hpre hlay hrd hwl hlo
    wrow_args hpre hlay hrd hwl hlo
    all_goals (
      rename Heap.IsList _ _ _=>hL
      rename IntsAre _ _=>hI
      rename ¬ (_ < _)=>hlen
      exact Mine.law_end Mine.law_true G hmg hg hL hI (by omega))
