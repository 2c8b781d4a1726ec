import Derived.WalkKit
import Derived.Lib.ItoaNum
import Derived.Orders
import Derived.Maps.AppendAt
import Derived.Laws.StructEq
import Derived.Great.BuildSlice
namespace Go.Ab
structure GLB (w : World) (T : Nat→Prop) : Prop where
 pow : T 1∧∃ t fr,w.heap[1]? = some (.cells (Lib.pow10Tab.map fun z=>Value.int .u64 z).toArray t fr)
 syn : T 4∧∃ ev,w.cell? ⟨4,0,none⟩ = some ev∧(ev=.nilIface ∨ ∃ te pe,ev=.iface te pe)
 rng : T 5∧∃ ev,w.cell? ⟨5,0,none⟩ = some ev∧(ev=.nilIface ∨ ∃ te pe,ev=.iface te pe)
theorem GLB.mono {w w' : World} {T T' : Nat→Prop} (hT : ∀ b,T b→T' b) (hw : ∀ b,T b→w'.heap[b]? = w.heap[b]?) (h : GLB w T) : GLB w' T' := by
 constructor
 ·obtain ⟨h1,t,fr,h2⟩ := h.pow; exact ⟨hT _ h1,t,fr,by rw [hw _ h1]; exact h2⟩
 ·obtain ⟨h1,ev,h2,h3⟩ := h.syn; exact ⟨hT _ h1,ev,by rw [World.cell?_of_block (w := w) (hw _ h1)]; exact h2,h3⟩
 ·obtain ⟨h1,ev,h2,h3⟩ := h.rng; exact ⟨hT _ h1,ev,by rw [World.cell?_of_block (w := w) (hw _ h1)]; exact h2,h3⟩
end Go.Ab

namespace Go.Ab
open Go.RowKit
structure CallD where
 proc : Int
 obj : Int
 kind : Int
 arg : Int
 ret : Int
 frm : Int
 to : Int
deriving DecidableEq,Inhabited
structure EventD where
 proc : Int
 kind : Int
 msg : Int
deriving DecidableEq,Inhabited
structure MarkD where
 value : Int
 proc : Int
 number : Int
 gone : Bool
deriving DecidableEq,Inhabited
inductive Dat where
 | ints (l : List Int)
 | calls (l : List CallD)
 | events (l : List EventD)
 | marks (l : List MarkD)
 | strs (l : List ByteArray)
 | bytes (l : List UInt8)
 | intss (l : List (List Int))
inductive AV where
 | any
 | v (x:Value)
 | sl (d:Dat)
 | own (l n:Nat)
 | ptr (l off:Nat)
 | pel (l esz k off:Nat)
 | ep (xs : List AV)
 | agg (xs : List AV)
 | tup (xs : List AV)
 | fn (f:Nat) (xs : List AV)
 | g (b:Bool) (x : AV)
deriving Inhabited
abbrev AV.i (x:Int) : AV := .v (.int .i64 x)
abbrev AV.b (x:Bool) : AV := .v (.bool x)
def CallD.avs (c:CallD) : List AV := [.v (.int .i64 c.proc),.v (.int .i64 c.obj),.v (.int .i64 c.kind),.v (.int .i64 c.arg),.v (.int .i64 c.ret),.v (.int .i64 c.frm),.v (.int .i64 c.to)]
def EventD.avs (c : EventD) : List AV := [.v (.int .i64 c.proc),.v (.int .i64 c.kind),.v (.int .i64 c.msg)]
def MarkD.avs (c : MarkD) : List AV := [.v (.int .i64 c.value),.v (.int .i64 c.proc),.v (.int .i64 c.number),.v (.bool c.gone)]
def Dat.len : Dat→Nat
 | .ints l=>l.length
 | .calls l=>l.length
 | .events l=>l.length
 | .marks l=>l.length
 | .strs l=>l.length
 | .bytes l=>l.length
 | .intss l=>l.length
def Dat.esz : Dat→Nat
 | .ints _=>1
 | .calls _=>7
 | .events _=>3
 | .marks _=>4
 | .strs _=>1
 | .bytes _=>1
 | .intss _=>1
def Dat.elem : Dat→Nat→List AV
 | .ints l,k => [.v (.int .i64 (l.getD k 0))]
 | .calls l,k=>(l.getD k default).avs
 | .events l,k=>(l.getD k default).avs
 | .marks l,k=>(l.getD k default).avs
 | .strs l,k => [.v (.string (l.getD k default))]
 | .bytes l,k => [.v (.int .u8 (l.getD k default).toNat)]
 | .intss l,k => [.sl (.ints (l.getD k []))]
theorem Dat.elem_length (d:Dat) (k:Nat) : (d.elem k).length=d.esz := by cases d <;> rfl
theorem Dat.esz_pos (d:Dat) : 0<d.esz := by cases d <;> simp [Dat.esz]
inductive Bl where
 | nil
 | blk (g cap:Nat)
abbrev Names := Nat→Option Bl
def FlatRep (w : World) (T : Nat→Prop) (n esz:Nat) (f : Nat→List Value) (y:Value) : Prop :=
 ∃ a c,y=.slice a n c∧n≤c∧c≤maxLen∧(n=0 ∨ ∃ ad,a=some ad∧T ad.block∧∀ k j u,k<n→(f k)[j]? = some u→w.cell? (ad.add (k * esz+j))=some u)
def AV.val : AV→Value
 | .v x=>x
 | _=>undef
def Dat.flat (d:Dat) (k:Nat) : List Value := (d.elem k).map AV.val
def SlRep (w : World) (T : Nat→Prop) : Dat→Value→Prop
 | .intss l,y => ∃ a c,y=.slice a l.length c∧l.length≤c∧c≤maxLen ∧
   (l.length=0 ∨ ∃ ad,a=some ad∧T ad.block∧∀ k,k<l.length→∃ u,w.cell? (ad.add k)=some u∧FlatRep w T (l.getD k []).length 1 (Dat.ints (l.getD k [])).flat u)
 | .ints l,y=>FlatRep w T l.length 1 (Dat.ints l).flat y
 | .calls l,y=>FlatRep w T l.length 7 (Dat.calls l).flat y
 | .events l,y=>FlatRep w T l.length 3 (Dat.events l).flat y
 | .marks l,y=>FlatRep w T l.length 4 (Dat.marks l).flat y
 | .strs l,y=>FlatRep w T l.length 1 (Dat.strs l).flat y
 | .bytes l,y=>FlatRep w T l.length 1 (Dat.bytes l).flat y
def OwnRep (b : Option Bl) (n:Nat) (y:Value) : Prop :=
 (b=some .nil∧n=0∧y=.slice none 0 0) ∨ ∃ g cap,b=some (.blk g cap)∧n≤cap∧y=.slice (some ⟨g,0,none⟩) n cap
mutual
def Rep (w : World) (T : Nat→Prop) (β : Names) : AV→Value→Prop
 | .any,_=>True
 | .v x,y=>y=x
 | .sl d,y=>SlRep w T d y
 | .own l n,y=>OwnRep (β l) n y
 | .ptr l off,y => ∃ g cap,β l=some (.blk g cap)∧y=.pointer (some ⟨g,off,none⟩)
 | .pel l esz k off,y => ∃ g cap,β l=some (.blk g cap)∧y=.pointer (some ⟨g,k * esz+off,none⟩)
 | .ep xs,y => ∃ ad us,y=.pointer (some ad)∧T ad.block∧RepL w T β xs us∧∀ j u,us[j]? = some u→w.cell? (ad.add j)=some u
 | .agg xs,y => ∃ ys : Array Value,y=.agg ys∧RepL w T β xs ys.toList
 | .tup xs,y => ∃ ys : Array Value,y=.tuple ys∧RepL w T β xs ys.toList
 | .fn f xs,y => ∃ ys : Array Value,y=.func (.func f) #[] ys∧RepL w T β xs ys.toList
 | .g b x,y=>(b=true→Rep w T β x y)∧(b=false→y=undef)
def RepL (w : World) (T : Nat→Prop) (β : Names) : List AV→List Value→Prop
 | [],[]=>True
 | x :: xs,y :: ys=>Rep w T β x y∧RepL w T β xs ys
 | _,_=>False
end
mutual
def AV.locs : AV→List Nat
 | .own l _ => [l]
 | .ptr l _ => [l]
 | .pel l _ _ _ => [l]
 | .ep xs=>AV.locsL xs
 | .agg xs=>AV.locsL xs
 | .tup xs=>AV.locsL xs
 | .fn _ xs=>AV.locsL xs
 | .g _ x=>AV.locs x
 | _ => []
def AV.locsL : List AV→List Nat
 | [] => []
 | x :: xs=>AV.locs x++AV.locsL xs
end
theorem FlatRep.mono {w w' : World} {T T' : Nat→Prop} {n esz : Nat} {f : Nat→List Value} {y : Value} (hT : ∀ b,T b→T' b) (hw : ∀ b,T b→w'.heap[b]? = w.heap[b]?)
  (h : FlatRep w T n esz f y) : FlatRep w' T' n esz f y := by
 obtain ⟨a,c,h1,h2,h3,h4⟩ := h
 refine ⟨a,c,h1,h2,h3,?_⟩
 rcases h4 with h4 | ⟨ad,h4,h5,h6⟩
 ·exact .inl h4
 ·refine .inr ⟨ad,h4,hT _ h5,fun k j u hk hu => ?_⟩
  rw [World.cell?_of_block (w := w)]
  ·exact h6 k j u hk hu
  ·rw [show (ad.add (k * esz+j)).block=ad.block from by unfold Addr.add; split <;> rfl]; exact hw _ h5
theorem block_add (a : Addr) (n:Nat) : (a.add n).block=a.block := by unfold Addr.add; split <;> rfl
theorem add_add (a : Addr) (i j:Nat) : (a.add i).add j=a.add (i+j) := by
 unfold Addr.add
 by_cases hi : i=0 <;> by_cases hj : j=0 <;> simp [hi,hj,Nat.add_assoc]
theorem SlRep.mono {w w' : World} {T T' : Nat→Prop} {d : Dat} {y : Value} (hT : ∀ b,T b→T' b) (hw : ∀ b,T b→w'.heap[b]? = w.heap[b]?)
  (h : SlRep w T d y) : SlRep w' T' d y := by
 cases d <;> simp only [SlRep] at h ⊢ <;> try exact FlatRep.mono hT hw h
 obtain ⟨a,c,h1,h2,h3,h4⟩ := h
 refine ⟨a,c,h1,h2,h3,?_⟩
 rcases h4 with h4 | ⟨ad,h4,h5,h6⟩
 ·exact .inl h4
 ·refine .inr ⟨ad,h4,hT _ h5,fun k hk => ?_⟩
  obtain ⟨u,hu,hf⟩ := h6 k hk
  refine ⟨u,?_,FlatRep.mono hT hw hf⟩
  rw [World.cell?_of_block (w := w)]
  ·exact hu
  ·rw [block_add]; exact hw _ h5
mutual
theorem Rep.mono {w w' : World} {T T' : Nat→Prop} {β β' : Names} (hT : ∀ b,T b→T' b) (hw : ∀ b,T b→w'.heap[b]? = w.heap[b]?) :
  ∀ (x : AV) (y:Value),(∀ l ∈ x.locs,∀ p,β l=some p→β' l=some p)→Rep w T β x y→Rep w' T' β' x y
 | .any,_,_,_=>by simp [Rep]
 | .v x,y,_,h=>by simpa [Rep] using h
 | .sl d,y,_,h=>by
  simp only [Rep] at h ⊢
  exact h.mono hT hw
 | .own l n,y,hb,h=>by
  simp only [Rep,OwnRep] at h ⊢
  rcases h with ⟨h1,h2⟩ | ⟨g,cap,h1,h2⟩
  ·exact .inl ⟨hb l (by simp [AV.locs]) _ h1,h2⟩
  ·exact .inr ⟨g,cap,hb l (by simp [AV.locs]) _ h1,h2⟩
 | .ptr l off,y,hb,h=>by
  simp only [Rep] at h ⊢
  obtain ⟨g,cap,h1,h2⟩ := h
  exact ⟨g,cap,hb l (by simp [AV.locs]) _ h1,h2⟩
 | .pel l e k off,y,hb,h=>by
  simp only [Rep] at h ⊢
  obtain ⟨g,cap,h1,h2⟩ := h
  exact ⟨g,cap,hb l (by simp [AV.locs]) _ h1,h2⟩
 | .ep xs,y,hb,h=>by
  simp only [Rep] at h ⊢
  obtain ⟨ad,us,h1,h2,h3,h4⟩ := h
  refine ⟨ad,us,h1,hT _ h2,RepL.mono hT hw xs us (by simpa [AV.locs] using hb) h3,fun j u hu => ?_⟩
  rw [World.cell?_of_block (w := w)]
  ·exact h4 j u hu
  ·rw [block_add]; exact hw _ h2
 | .agg xs,y,hb,h=>by
  simp only [Rep] at h ⊢
  obtain ⟨ys,h1,h2⟩ := h
  exact ⟨ys,h1,RepL.mono hT hw xs _ (by simpa [AV.locs] using hb) h2⟩
 | .tup xs,y,hb,h=>by
  simp only [Rep] at h ⊢
  obtain ⟨ys,h1,h2⟩ := h
  exact ⟨ys,h1,RepL.mono hT hw xs _ (by simpa [AV.locs] using hb) h2⟩
 | .fn f xs,y,hb,h=>by
  simp only [Rep] at h ⊢
  obtain ⟨ys,h1,h2⟩ := h
  exact ⟨ys,h1,RepL.mono hT hw xs _ (by simpa [AV.locs] using hb) h2⟩
 | .g b x,y,hb,h=>by
  simp only [Rep] at h ⊢
  exact ⟨fun e=>Rep.mono hT hw x y (by simpa [AV.locs] using hb) (h.1 e),h.2⟩
theorem RepL.mono {w w' : World} {T T' : Nat→Prop} {β β' : Names} (hT : ∀ b,T b→T' b) (hw : ∀ b,T b→w'.heap[b]? = w.heap[b]?) :
  ∀ (xs : List AV) (ys : List Value),(∀ l ∈ AV.locsL xs,∀ p,β l=some p→β' l=some p)→RepL w T β xs ys→RepL w' T' β' xs ys
 | [],[],_,_=>by simp [RepL]
 | x :: xs,y :: ys,hb,h=>by
  simp only [RepL] at h ⊢
  exact ⟨Rep.mono hT hw x y (fun l hl=>hb l (by simp [AV.locsL,hl])) h.1,RepL.mono hT hw xs ys (fun l hl=>hb l (by simp [AV.locsL,hl])) h.2⟩
 | [],_ :: _,_,h=>by simp [RepL] at h
 | _ :: _,[],_,h=>by simp [RepL] at h
end
theorem RepL.length_eq {w : World} {T : Nat→Prop} {β : Names} : ∀ {xs : List AV} {ys : List Value},RepL w T β xs ys→xs.length=ys.length
 | [],[],_=>rfl
 | _ :: xs,_ :: ys,h=>by simp only [RepL] at h; simp [RepL.length_eq h.2]
 | [],_ :: _,h=>by simp [RepL] at h
 | _ :: _,[],h=>by simp [RepL] at h
theorem RepL.get {w : World} {T : Nat→Prop} {β : Names} : ∀ {xs : List AV} {ys : List Value},RepL w T β xs ys→∀ {j : Nat} {x : AV},xs[j]? = some x→∃ y,ys[j]? = some y∧Rep w T β x y
 | [],[],_,j,x,hx=>by simp at hx
 | x0 :: xs,y0 :: ys,h,j,x,hx=>by
  simp only [RepL] at h
  cases j with
  | zero=>simp at hx; subst hx; exact ⟨y0,by simp,h.1⟩
  | succ j=>simp at hx; obtain ⟨y,hy,hr⟩ := RepL.get h.2 hx; exact ⟨y,by simpa using hy,hr⟩
 | [],_ :: _,h,_,_,_=>by simp [RepL] at h
 | _ :: _,[],h,_,_,_=>by simp [RepL] at h
theorem RepL.drop {w : World} {T : Nat→Prop} {β : Names} : ∀ (i:Nat) {xs : List AV} {ys : List Value},RepL w T β xs ys→RepL w T β (xs.drop i) (ys.drop i)
 | 0,_,_,h=>by simpa using h
 | i+1,[],[],_=>by simp [RepL]
 | i+1,_ :: xs,_ :: ys,h=>by simp only [RepL] at h; simpa using RepL.drop i h.2
 | _+1,[],_ :: _,h=>by simp [RepL] at h
 | _+1,_ :: _,[],h=>by simp [RepL] at h
theorem RepL.take {w : World} {T : Nat→Prop} {β : Names} : ∀ (i:Nat) {xs : List AV} {ys : List Value},RepL w T β xs ys→RepL w T β (xs.take i) (ys.take i)
 | 0,_,_,_=>by simp [RepL]
 | i+1,[],[],_=>by simp [RepL]
 | i+1,_ :: xs,_ :: ys,h=>by simp only [RepL] at h; simpa [RepL] using ⟨h.1,RepL.take i h.2⟩
 | _+1,[],_ :: _,h=>by simp [RepL] at h
 | _+1,_ :: _,[],h=>by simp [RepL] at h
theorem RepL.set {w : World} {T : Nat→Prop} {β : Names} : ∀ {i : Nat} {xs : List AV} {ys : List Value} {x : AV} {y : Value},RepL w T β xs ys→Rep w T β x y→RepL w T β (xs.set i x) (ys.set i y)
 | _,[],[],_,_,_,_=>by simp [RepL]
 | 0,_ :: xs,_ :: ys,_,_,h,hx=>by simp only [RepL] at h; simpa [RepL] using ⟨hx,h.2⟩
 | i+1,_ :: xs,_ :: ys,_,_,h,hx=>by simp only [RepL] at h; simpa [RepL] using ⟨h.1,RepL.set h.2 hx⟩
 | _,[],_ :: _,_,_,h,_=>by simp [RepL] at h
 | _,_ :: _,[],_,_,h,_=>by simp [RepL] at h
theorem RepL.append {w : World} {T : Nat→Prop} {β : Names} : ∀ {xs xs' : List AV} {ys ys' : List Value},RepL w T β xs ys→RepL w T β xs' ys'→RepL w T β (xs++xs') (ys++ys')
 | [],_,[],_,_,h=>by simpa using h
 | _ :: xs,_,_ :: ys,_,h,h'=>by simp only [RepL] at h; simpa [RepL] using ⟨h.1,RepL.append h.2 h'⟩
 | [],_,_ :: _,_,h,_=>by simp [RepL] at h
 | _ :: _,_,[],_,h,_=>by simp [RepL] at h
end Go.Ab

namespace Go.Ab
open Go.RowKit
inductive TyK where
 | sc (z:Value)
 | st (zs : List Value)
 | arr (d:Dat)
inductive DatK where
 | ints | calls | events | marks | strs | bytes | intss
deriving DecidableEq
def DatK.esz : DatK→Nat
 | .ints=>1
 | .calls=>7
 | .events=>3
 | .marks=>4
 | .strs=>1
 | .bytes=>1
 | .intss=>1
def DatK.bytes_ : DatK→Nat
 | .ints=>8
 | .calls=>56
 | .events=>24
 | .marks=>32
 | .strs=>16
 | .bytes=>1
 | .intss=>24
def DatK.zero : DatK→Value
 | .ints => .int .i64 0
 | .calls => .agg #[.int .i64 0,.int .i64 0,.int .i64 0,.int .i64 0,.int .i64 0,.int .i64 0,.int .i64 0]
 | .events => .agg #[.int .i64 0,.int .i64 0,.int .i64 0]
 | .marks => .agg #[.int .i64 0,.int .i64 0,.int .i64 0,.bool false]
 | .strs => .string ByteArray.empty
 | .bytes => .int .u8 0
 | .intss => .slice none 0 0
def DatK.empty : DatK→Dat
 | .ints => .ints []
 | .calls => .calls []
 | .events => .events []
 | .marks => .marks []
 | .strs => .strs []
 | .bytes => .bytes []
 | .intss => .intss []
def Dat.kind : Dat→DatK
 | .ints _ => .ints
 | .calls _ => .calls
 | .events _ => .events
 | .marks _ => .marks
 | .strs _ => .strs
 | .bytes _ => .bytes
 | .intss _ => .intss
inductive Cells where
 | fix (xs : List AV)
 | row (d:Dat)
structure LB where
 ty : TypeId
 c : Cells
abbrev Heap := Nat→Option LB
structure Fr where
 w0 : World
 M : Nat→Prop
 S : Nat→Prop
 nt : Nat
 hS : ∀ b,S b→b<w0.heap.size∧¬ M b
 hM : ∀ b,M b→b<w0.heap.size
 pin : Nat→Option Bl
 pinR : ∀ l p,pin l=some p→900≤l∧l<999
 gl : GLB w0 S
def Live (β : Names) (s : Heap) (b:Nat) : Prop := ∃ l c cap,s l=some c∧β l=some (.blk b cap)
def Stab (F : Fr) (β : Names) (s : Heap) (w : World) (b:Nat) : Prop := (F.S b ∨ F.M b ∨ (F.w0.heap.size≤b∧b<w.heap.size))∧¬ Live β s b
def RowRep (w : World) (T : Nat→Prop) (β : Names) (d:Dat) (cur : Array Value) : Prop :=
 ∀ k j x,k<d.len→(d.elem k)[j]? = some x→∃ y,cur[k * d.esz+j]? = some y∧Rep w T β x y
def CellsOK (w : World) (T : Nat→Prop) (β : Names) (l:Nat) (t : TypeId) : Cells→Prop
 | .fix xs => ∃ g cap arr,β l=some (.blk g cap)∧w.heap[g]? = some (.cells arr t (0,0))∧RepL w T β xs arr.toList
 | .row d=>(β l=some .nil∧d.len=0) ∨ ∃ g cap cur,β l=some (.blk g cap)∧w.heap[g]? = some (.cells cur t (0,0))∧d.len≤cap∧cap≤maxLen∧cur.size=cap * d.esz∧RowRep w T β d cur
def LocOK (w : World) (T : Nat→Prop) (β : Names) (l:Nat) (c : LB) : Prop := CellsOK w T β l c.ty c.c
structure Sat (F : Fr) (β : Names) (e : Nat→Option AV) (s : Heap) (u : Nat→Prop) (a : Act) (w : World) : Prop where
 os : w.os=F.w0.os
 tape : w.tape=F.w0.tape
 output : w.output=F.w0.output
 size : F.w0.heap.size≤w.heap.size
 old : ∀ b,b<F.w0.heap.size→¬ F.M b→w.heap[b]? = F.w0.heap[b]?
 dom : ∀ l p,β l=some p→u l
 loc : ∀ l c,s l=some c→LocOK w (Stab F β s w) β l c
 inj : ∀ l l' c c' g cap cap',s l=some c→s l' = some c'→β l=some (.blk g cap)→β l' = some (.blk g cap')→l=l'
 out : ∀ l c g cap,s l=some c→β l=some (.blk g cap)→F.M g ∨ F.w0.heap.size≤g
 slots : ∀ t x,e t=some x→∃ y,a.tmps[t]? = some y∧Rep w (Stab F β s w) β x y
 nt : a.tmps.size=F.nt
 defers : a.defers=[]
 pin : ∀ l p,F.pin l=some p→β l=some p
def opv (e : Nat→Option AV) : Operand→Option AV
 | .tmp t=>e t
 | .const v=>some (.v v)
 | .func f=>some (.fn f [])
 | .global _=>none
section
variable {F : Fr} {β : Names} {e : Nat→Option AV} {s : Heap} {u : Nat→Prop} {a : Act} {w : World} {P : Program}
theorem Sat.glb (h : Sat F β e s u a w) : GLB w (Stab F β s w) :=
 GLB.mono (fun b hb=>⟨.inl hb,fun ⟨l,c,cap,h1,h2⟩=>(h.out l c b cap h1 h2).elim (fun hm=>(F.hS b hb).2 hm) (fun hge=>by have := (F.hS b hb).1; omega)⟩) (fun b hb=>h.old b (F.hS b hb).1 (F.hS b hb).2) F.gl
theorem Sat.opv (h : Sat F β e s u a w) {x : Operand} {v : AV} (hx : Ab.opv e x=some v) : Rep w (Stab F β s w) β v (a.eval x) := by
 cases x with
 | tmp t =>
  obtain ⟨y,hy,hr⟩ := h.slots t v hx
  simpa [Act.eval,Array.getD_eq_getD_getElem?,hy] using hr
 | const c=>simp only [Ab.opv,Option.some.injEq] at hx; subst hx; simp [Rep,Act.eval]
 | func f =>
  simp only [Ab.opv,Option.some.injEq] at hx; subst hx
  simp only [Rep,Act.eval]
  exact ⟨#[],rfl,by simp [RepL]⟩
 | global g=>simp [Ab.opv] at hx
def updE (e : Nat→Option AV) (dst : Option Nat) (x : AV) : Nat→Option AV := fun t=>if dst=some t then some x else e t
theorem Sat.put (h : Sat F β e s u a w) {dst : Option Nat} {x : AV} {y : Value} (hx : Rep w (Stab F β s w) β x y) (hd : ∀ d,dst=some d→d<F.nt) : Sat F β (updE e dst x) s u (a.put dst y) w := by
 have hsz : (a.put dst y).tmps.size=F.nt := by cases dst <;> simp [Act.put,h.nt]
 refine ⟨h.os,h.tape,h.output,h.size,h.old,h.dom,h.loc,h.inj,h.out,?_,hsz,?_,h.pin⟩
 ·intro t x' hx'
  unfold updE at hx'
  cases dst with
  | none=>simp only [reduceCtorEq,if_false] at hx'; exact h.slots t x' hx'
  | some d =>
   by_cases hdt : d=t
   ·subst hdt
    simp only [if_true,Option.some.injEq] at hx'
    subst hx'
    refine ⟨y,?_,hx⟩
    have := hd d rfl
    simp [Act.put,h.nt,this]
   ·simp only [Option.some.injEq,hdt,if_false] at hx'
    obtain ⟨y',hy',hr⟩ := h.slots t x' hx'
    exact ⟨y',by simp [Act.put,Array.getElem?_setIfInBounds_ne hdt,hy'],hr⟩
 ·cases dst <;> simp [Act.put,h.defers]
theorem Stab.lt (h : Sat F β e s u a w) {b : Nat} (hb : Stab F β s w b) : b<w.heap.size := by
 have := h.size
 rcases hb.1 with h1 | h1 | h1
 ·have := (F.hS b h1).1; omega
 ·have := F.hM b h1; omega
 ·exact h1.2
theorem Live.lt (h : Sat F β e s u a w) {b : Nat} (hb : Live β s b) : b<w.heap.size := by
 obtain ⟨l,c,cap,hl,hbl⟩ := hb
 have hloc := h.loc l c hl
 unfold LocOK at hloc
 cases hc : c.c with
 | fix xs =>
  simp only [hc,CellsOK] at hloc
  obtain ⟨g,cap',arr,h1,h2,_⟩ := hloc
  rw [hbl] at h1; injection h1 with h1; injection h1 with h1 _; subst h1
  exact (Array.getElem?_eq_some_iff.1 h2).1
 | row d =>
  simp only [hc,CellsOK] at hloc
  rcases hloc with ⟨h1,_⟩ | ⟨g,cap',cur,h1,h2,_⟩
  ·rw [hbl] at h1; cases h1
  ·rw [hbl] at h1; injection h1 with h1; injection h1 with h1 _; subst h1
   exact (Array.getElem?_eq_some_iff.1 h2).1
theorem RowRep.mono {w w' : World} {T T' : Nat→Prop} {β β' : Names} {d : Dat} {cur : Array Value} (hT : ∀ b,T b→T' b) (hw : ∀ b,T b→w'.heap[b]? = w.heap[b]?)
  (h : RowRep w T β d cur) : RowRep w' T' β' d cur := by
 intro k j x hk hj
 obtain ⟨y,hy,hr⟩ := h k j x hk hj
 refine ⟨y,hy,Rep.mono hT hw x y ?_ hr⟩
 intro l hl
 have hm : x ∈ d.elem k := List.mem_of_getElem? hj
 have : x.locs=[] := by
  cases d <;> simp [Dat.elem,CallD.avs,EventD.avs,MarkD.avs] at hm <;> first | (subst hm; rfl) | (rcases hm with rfl | rfl | rfl | rfl | rfl | rfl | rfl <;> rfl) | (rcases hm with rfl | rfl | rfl <;> rfl) | (rcases hm with rfl | rfl | rfl | rfl <;> rfl)
 rw [this] at hl
 cases hl
theorem CellsOK.mono {w w' : World} {T T' : Nat→Prop} {β β' : Names} {l : Nat} {t : TypeId} {c : Cells} (hT : ∀ b,T b→T' b) (hw : ∀ b,T b→w'.heap[b]? = w.heap[b]?)
  (hb : ∀ l p,β l=some p→β' l=some p) (hg : ∀ g cap,β l=some (.blk g cap)→w'.heap[g]? = w.heap[g]?) (h : CellsOK w T β l t c) : CellsOK w' T' β' l t c := by
 cases c with
 | fix xs =>
  obtain ⟨g,cap,arr,h1,h2,h3⟩ := h
  exact ⟨g,cap,arr,hb _ _ h1,(hg g cap h1).trans h2,RepL.mono hT hw xs _ (fun l _ p hp=>hb l p hp) h3⟩
 | row d =>
  rcases h with ⟨h1,h2⟩ | ⟨g,cap,cur,h1,h2,h3,h4,h5,h6⟩
  ·exact .inl ⟨hb _ _ h1,h2⟩
  ·exact .inr ⟨g,cap,cur,hb _ _ h1,(hg g cap h1).trans h2,h3,h4,h5,h6.mono hT hw⟩
theorem Sat.step (h : Sat F β e s u a w) {w' : World} {β' : Names} {s' : Heap} {u' : Nat→Prop}
  (hos : w'.os=w.os) (htape : w'.tape=w.tape) (hout : w'.output=w.output) (hsize : w.heap.size≤w'.heap.size)
  (hkeep : ∀ b,b<w.heap.size→¬ Live β s b→w'.heap[b]? = w.heap[b]?)
  (hβ : ∀ l p,β l=some p→β' l=some p) (hdom : ∀ l p,β' l=some p→u' l)
  (hlive : ∀ b,Live β' s' b→b<w.heap.size→Live β s b)
  (hlocs : ∀ l c,s' l=some c→LocOK w' (Stab F β' s' w') β' l c)
  (hinj : ∀ l l' c c' g cap cap',s' l=some c→s' l' = some c'→β' l=some (.blk g cap)→β' l' = some (.blk g cap')→l=l')
  (hnew : ∀ l c g cap,s' l=some c→β' l=some (.blk g cap)→F.M g ∨ F.w0.heap.size≤g) : Sat F β' e s' u' a w' := by
 have hT : ∀ b,Stab F β s w b→Stab F β' s' w' b := by
  intro b hb
  have hlt := Stab.lt h hb
  refine ⟨?_,fun hl=>hb.2 (hlive b hl hlt)⟩
  rcases hb.1 with h1 | h1 | h1
  ·exact .inl h1
  ·exact .inr (.inl h1)
  ·exact .inr (.inr ⟨h1.1,by omega⟩)
 have hw : ∀ b,Stab F β s w b→w'.heap[b]? = w.heap[b]? := fun b hb=>hkeep b (Stab.lt h hb) hb.2
 refine ⟨hos.trans h.os,htape.trans h.tape,hout.trans h.output,Nat.le_trans h.size hsize,?_,hdom,hlocs,hinj,hnew,?_,h.nt,h.defers,fun l p hp=>hβ _ _ (h.pin l p hp)⟩
 ·intro b hb hM
  rw [hkeep b (by have := h.size; omega) ?_]
  ·exact h.old b hb hM
  ·rintro ⟨l,c,cap,hl,hbl⟩
   rcases h.out l c b cap hl hbl with h1 | h1
   ·exact hM h1
   ·omega
 ·intro t x hx
  obtain ⟨y,hy,hr⟩ := h.slots t x hx
  exact ⟨y,hy,Rep.mono hT hw x y (fun l _ p hp=>hβ l p hp) hr⟩
theorem Sat.grow (h : Sat F β e s u a w) {w' : World} {β' : Names} {s' : Heap} (hsize : w.heap.size≤w'.heap.size)
  (hkeep : ∀ b,b<w.heap.size→¬ Live β s b→w'.heap[b]? = w.heap[b]?) (hlive : ∀ b,Live β' s' b→b<w.heap.size→Live β s b) :
  (∀ b,Stab F β s w b→Stab F β' s' w' b)∧(∀ b,Stab F β s w b→w'.heap[b]? = w.heap[b]?) := by
 refine ⟨fun b hb => ?_,fun b hb=>hkeep b (Stab.lt h hb) hb.2⟩
 have hlt := Stab.lt h hb
 refine ⟨?_,fun hl=>hb.2 (hlive b hl hlt)⟩
 rcases hb.1 with h1 | h1 | h1
 ·exact .inl h1
 ·exact .inr (.inl h1)
 ·exact .inr (.inr ⟨h1.1,by omega⟩)
def updS (s : Heap) (l:Nat) (c : Option LB) : Heap := fun k=>if k=l then c else s k
def updB (β : Names) (l:Nat) (p : Bl) : Names := fun k=>if k=l then some p else β k
theorem Sat.alloc (h : Sat F β e s u a w) {w' : World} {nm : Nat} (hnm : ¬ u nm) {c : LB} {arr : Array Value} {cap : Nat}
  (hos : w'.os=w.os) (htape : w'.tape=w.tape) (hout : w'.output=w.output) (hheap : w'.heap=w.heap.push (.cells arr c.ty (0,0)))
  (hc : ∀ (T : Nat→Prop) (β' : Names),(∀ b,Stab F β s w b→T b)→(∀ l p,β l=some p→β' l=some p)→β' nm=some (.blk w.heap.size cap) →
   CellsOK w' T β' nm c.ty c.c) :
  Sat F (updB β nm (.blk w.heap.size cap)) e (updS s nm (some c)) (fun l=>u l ∨ l=nm) a w' := by
 have hsz : w'.heap.size=w.heap.size+1 := by simp [hheap]
 have hold : ∀ b,b<w.heap.size→w'.heap[b]? = w.heap[b]? := fun b hb=>by rw [hheap,Array.getElem?_push,if_neg (by omega)]
 have hnone : β nm=none := by
  cases hb : β nm with
  | none=>rfl
  | some p=>exact absurd (h.dom nm p hb) hnm
 have hsnone : s nm=none := by
  cases hs : s nm with
  | none=>rfl
  | some c' =>
   have := h.loc nm c' hs
   unfold LocOK at this
   cases hcc : c'.c <;> simp only [hcc,CellsOK,hnone] at this
   ·obtain ⟨g,cap,arr,h1,_⟩ := this; cases h1
   ·rcases this with ⟨h1,_⟩ | ⟨g,cap,arr,h1,_⟩ <;> cases h1
 have hβ : ∀ l p,β l=some p→updB β nm (.blk w.heap.size cap) l=some p := by
  intro l p hl
  unfold updB
  rw [if_neg]
  ·exact hl
  ·rintro rfl; rw [hnone] at hl; cases hl
 have hlive : ∀ b,Live (updB β nm (.blk w.heap.size cap)) (updS s nm (some c)) b→b<w.heap.size→Live β s b := by
  rintro b ⟨l,c',cap',hl,hb⟩ hlt
  unfold updB at hb
  unfold updS at hl
  by_cases he : l=nm
  ·subst he; simp only [if_true,Option.some.injEq,Bl.blk.injEq] at hb; omega
  ·rw [if_neg he] at hb hl; exact ⟨l,c',cap',hl,hb⟩
 obtain ⟨hT,hw⟩ := h.grow (w' := w') (β' := updB β nm (.blk w.heap.size cap)) (s' := updS s nm (some c)) (by omega) (fun b hb _=>hold b hb) hlive
 refine h.step hos htape hout (by omega) (fun b hb _=>hold b hb) hβ ?_ hlive ?_ ?_ ?_
 ·intro l p hl
  unfold updB at hl
  by_cases he : l=nm
  ·exact .inr he
  ·rw [if_neg he] at hl; exact .inl (h.dom l p hl)
 ·intro l c' hl
  unfold updS at hl
  by_cases he : l=nm
  ·subst he
   simp only [if_true,Option.some.injEq] at hl
   subst hl
   exact hc _ _ hT hβ (by simp [updB])
  ·rw [if_neg he] at hl
   refine CellsOK.mono hT hw hβ (fun g cap' hg=>hold g (Live.lt h ⟨l,c',cap',hl,hg⟩)) (h.loc l c' hl)
 ·intro l l' c1 c2 g cap1 cap2 hl hl' hb hb'
  unfold updS at hl hl'
  unfold updB at hb hb'
  by_cases he : l=nm <;> by_cases he' : l' = nm
  ·rw [he,he']
  ·exfalso
   rw [if_pos he] at hb
   rw [if_neg he'] at hb' hl'
   simp only [Option.some.injEq,Bl.blk.injEq] at hb
   have := Live.lt h ⟨l',c2,cap2,hl',hb'⟩
   omega
  ·exfalso
   rw [if_pos he'] at hb'
   rw [if_neg he] at hb hl
   simp only [Option.some.injEq,Bl.blk.injEq] at hb'
   have := Live.lt h ⟨l,c1,cap1,hl,hb⟩
   omega
  ·rw [if_neg he] at hb hl
   rw [if_neg he'] at hb' hl'
   exact h.inj l l' c1 c2 g cap1 cap2 hl hl' hb hb'
 ·intro l c' g cap' hl hb
  unfold updS at hl
  unfold updB at hb
  by_cases he : l=nm
  ·rw [if_pos he] at hb
   simp only [Option.some.injEq,Bl.blk.injEq] at hb
   right
   have := h.size
   omega
  ·rw [if_neg he] at hb hl
   exact h.out l c' g cap' hl hb
theorem Sat.kill (h : Sat F β e s u a w) (l0:Nat) : Sat F β e (updS s l0 none) u a w := by
 have hlive : ∀ b,Live β (updS s l0 none) b→b<w.heap.size→Live β s b := by
  rintro b ⟨l,c',cap',hl,hb⟩ _
  unfold updS at hl
  by_cases he : l=l0
  ·rw [if_pos he] at hl; cases hl
  ·rw [if_neg he] at hl; exact ⟨l,c',cap',hl,hb⟩
 obtain ⟨hT,hw⟩ := h.grow (w' := w) (β' := β) (s' := updS s l0 none) (Nat.le_refl _) (fun b hb _=>rfl) hlive
 refine h.step rfl rfl rfl (Nat.le_refl _) (fun _ _ _=>rfl) (fun _ _ h=>h) h.dom hlive ?_ ?_ ?_
 ·intro l c' hl
  unfold updS at hl
  by_cases he : l=l0
  ·rw [if_pos he] at hl; cases hl
  ·rw [if_neg he] at hl
   exact CellsOK.mono hT hw (fun _ _ h=>h) (fun _ _ _=>rfl) (h.loc l c' hl)
 ·intro l l' c1 c2 g cap1 cap2 hl hl' hb hb'
  unfold updS at hl hl'
  by_cases he : l=l0
  ·rw [if_pos he] at hl; cases hl
  by_cases he' : l' = l0
  ·rw [if_pos he'] at hl'; cases hl'
  rw [if_neg he] at hl
  rw [if_neg he'] at hl'
  exact h.inj l l' c1 c2 g cap1 cap2 hl hl' hb hb'
 ·intro l c' g cap' hl hb
  unfold updS at hl
  by_cases he : l=l0
  ·rw [if_pos he] at hl; cases hl
  ·rw [if_neg he] at hl; exact h.out l c' g cap' hl hb
theorem CellsOK.row_flat {T : Nat→Prop} {d : Dat} {cur : Array Value} {g : Nat} {t : TypeId} (hh : w.heap[g]? = some (.cells cur t (0,0))) (hr : RowRep w T β d cur)
  {n : Nat} (hn : n≤d.len) (hfl : ∀ k x,x ∈ d.elem k→∃ y,x=.v y) : ∀ k j y,k<n→(d.flat k)[j]? = some y→w.cell? ((⟨g,0,none⟩ : Addr).add (k * d.esz+j))=some y := by
 intro k j y hk hy
 unfold Dat.flat at hy
 rw [List.getElem?_map] at hy
 cases hx : (d.elem k)[j]? with
 | none=>rw [hx] at hy; cases hy
 | some x =>
  rw [hx] at hy
  obtain ⟨z,hz⟩ := hfl k x (List.mem_of_getElem? hx)
  subst hz
  simp only [Option.map_some,AV.val,Option.some.injEq] at hy
  subst hy
  obtain ⟨y',hy',hr'⟩ := hr k j _ (by omega) hx
  simp only [Rep] at hr'
  subst hr'
  rw [Addr.add_lit,Nat.zero_add,cell_of_row w g _ cur t (0,0) hh]
  exact hy'
theorem sl_of_row {T : Nat→Prop} {d : Dat} {cur : Array Value} {g cap : Nat} (hT : T g) {t : TypeId} (hh : w.heap[g]? = some (.cells cur t (0,0))) (hr : RowRep w T β d cur)
  (hc : d.len≤cap) (hm : cap≤maxLen) : SlRep w T d (.slice (some ⟨g,0,none⟩) d.len cap) := by
 cases d with
 | intss l =>
  refine ⟨_,_,rfl,hc,hm,?_⟩
  rcases Nat.eq_zero_or_pos l.length with h0 | h0
  ·exact .inl h0
  ·refine .inr ⟨_,rfl,hT,fun k hk => ?_⟩
   obtain ⟨y,hy,hr'⟩ := hr k 0 (.sl (.ints (l.getD k []))) hk (by simp [Dat.elem])
   refine ⟨y,?_,by simpa [Rep,SlRep] using hr'⟩
   rw [Addr.add_lit,Nat.zero_add,cell_of_row w g _ cur t (0,0) hh]
   simpa [Dat.esz] using hy
 | ints l =>
  exact ⟨_,_,rfl,hc,hm,.inr ⟨_,rfl,hT,CellsOK.row_flat (n := l.length) hh hr (Nat.le_refl _) (by intro k x hx; simp [Dat.elem] at hx; exact ⟨_,hx⟩)⟩⟩
 | strs l =>
  exact ⟨_,_,rfl,hc,hm,.inr ⟨_,rfl,hT,CellsOK.row_flat (n := l.length) hh hr (Nat.le_refl _) (by intro k x hx; simp [Dat.elem] at hx; exact ⟨_,hx⟩)⟩⟩
 | bytes l =>
  exact ⟨_,_,rfl,hc,hm,.inr ⟨_,rfl,hT,CellsOK.row_flat (n := l.length) hh hr (Nat.le_refl _) (by intro k x hx; simp [Dat.elem] at hx; exact ⟨_,hx⟩)⟩⟩
 | calls l =>
  exact ⟨_,_,rfl,hc,hm,.inr ⟨_,rfl,hT,CellsOK.row_flat (n := l.length) hh hr (Nat.le_refl _) (by intro k x hx; simp [Dat.elem,CallD.avs] at hx; rcases hx with rfl | rfl | rfl | rfl | rfl | rfl | rfl <;> exact ⟨_,rfl⟩)⟩⟩
 | events l =>
  exact ⟨_,_,rfl,hc,hm,.inr ⟨_,rfl,hT,CellsOK.row_flat (n := l.length) hh hr (Nat.le_refl _) (by intro k x hx; simp [Dat.elem,EventD.avs] at hx; rcases hx with rfl | rfl | rfl <;> exact ⟨_,rfl⟩)⟩⟩
 | marks l =>
  exact ⟨_,_,rfl,hc,hm,.inr ⟨_,rfl,hT,CellsOK.row_flat (n := l.length) hh hr (Nat.le_refl _) (by intro k x hx; simp [Dat.elem,MarkD.avs] at hx; rcases hx with rfl | rfl | rfl | rfl <;> exact ⟨_,rfl⟩)⟩⟩
theorem sl_of_nil {T : Nat→Prop} {d : Dat} (h : d.len=0) : SlRep w T d (.slice none 0 0) := by
 cases d <;> simp only [Dat.len] at h <;> exact ⟨none,0,by rw [h],by omega,by unfold maxLen; omega,.inl h⟩
theorem Sat.freeze (h : Sat F β e s u a w) {l0 : Nat} {t : TypeId} {d : Dat} {y : Value} (hl : s l0=some ⟨t,.row d⟩) (hr : OwnRep (β l0) d.len y) :
  SlRep w (Stab F β (updS s l0 none) w) d y := by
 have hk := h.kill l0
 have hloc := h.loc l0 _ hl
 simp only [LocOK,CellsOK] at hloc
 rcases hloc with ⟨h1,h2⟩ | ⟨g,cap,cur,h1,h2,h3,h4,_,h6⟩
 ·rcases hr with ⟨_,_,rfl⟩ | ⟨g,cap,h3,_⟩
  ·exact sl_of_nil h2
  ·rw [h1] at h3; cases h3
 ·rcases hr with ⟨h7,_⟩ | ⟨g',cap',h7,_,rfl⟩
  ·rw [h1] at h7; cases h7
  ·rw [h1] at h7
   simp only [Option.some.injEq,Bl.blk.injEq] at h7
   obtain ⟨rfl,rfl⟩ := h7
   have hlt := (Array.getElem?_eq_some_iff.1 h2).1
   have hT : Stab F β (updS s l0 none) w g := by
    refine ⟨?_,?_⟩
    ·rcases h.out l0 _ g cap hl h1 with hm | hm
     ·exact .inr (.inl hm)
     ·exact .inr (.inr ⟨hm,hlt⟩)
    ·rintro ⟨l,c,cap',hl',hb'⟩
     unfold updS at hl'
     by_cases he : l=l0
     ·rw [if_pos he] at hl'; cases hl'
     ·rw [if_neg he] at hl'
      exact he (h.inj l l0 c _ g cap' cap hl' hl hb' h1)
   refine sl_of_row (β := β) hT h2 ?_ h3 h4
   exact h6.mono (fun b hb=>⟨hb.1,fun hl'=>hb.2 (by
    obtain ⟨l,c,cap',hl1,hb1⟩ := hl'
    unfold updS at hl1
    by_cases he : l=l0
    ·rw [if_pos he] at hl1; cases hl1
    ·rw [if_neg he] at hl1; exact ⟨l,c,cap',hl1,hb1⟩)⟩) (fun _ _=>rfl)
theorem Sat.turn (h : Sat F β e s u a w) {w' : World} {l0 g0 cap0 : Nat} {c0 c : LB} (hl0 : s l0=some c0) (hb0 : β l0=some (.blk g0 cap0))
  (hos : w'.os=w.os) (htape : w'.tape=w.tape) (hout : w'.output=w.output) (hsz : w'.heap.size=w.heap.size) (hkeep : ∀ b,b≠g0→w'.heap[b]? = w.heap[b]?)
  (hc : (∀ b,Stab F β s w b→w'.heap[b]? = w.heap[b]?)→CellsOK w' (Stab F β s w) β l0 c.ty c.c) :
  Sat F β e (updS s l0 (some c)) u a w' := by
 have hlv : ∀ b,Live β (updS s l0 (some c)) b↔Live β s b := by
  intro b
  constructor
  ·rintro ⟨l,c',cap',hl,hb⟩
   unfold updS at hl
   by_cases he : l=l0
   ·subst he; exact ⟨l,c0,cap',hl0,hb⟩
   ·rw [if_neg he] at hl; exact ⟨l,c',cap',hl,hb⟩
  ·rintro ⟨l,c',cap',hl,hb⟩
   by_cases he : l=l0
   ·exact ⟨l,c,cap',by simp [updS,he],hb⟩
   ·exact ⟨l,c',cap',by simp [updS,he,hl],hb⟩
 have hst : ∀ b,Stab F β (updS s l0 (some c)) w' b↔Stab F β s w b := by
  intro b
  unfold Stab
  rw [hlv b,hsz]
 have hlive0 : Live β s g0 := ⟨l0,c0,cap0,hl0,hb0⟩
 have hk : ∀ b,b<w.heap.size→¬ Live β s b→w'.heap[b]? = w.heap[b]? := fun b _ hnl=>hkeep b (by rintro rfl; exact hnl hlive0)
 obtain ⟨hT,hw⟩ := h.grow (w' := w') (β' := β) (s' := updS s l0 (some c)) (by omega) hk (fun b hb _=>(hlv b).1 hb)
 refine h.step hos htape hout (by omega) hk (fun _ _ h=>h) h.dom (fun b hb _=>(hlv b).1 hb) ?_ ?_ ?_
 ·intro l c' hl
  unfold updS at hl
  by_cases he : l=l0
  ·subst he
   simp only [if_true,Option.some.injEq] at hl
   subst hl
   have h1 := hc hw
   have h2 := CellsOK.mono (T' := Stab F β (updS s l (some c)) w') (β' := β) (w' := w') (fun b hb=>(hst b).2 hb) (fun b hb=>rfl) (fun _ _ h=>h) (fun _ _ _=>rfl) h1
   exact h2
  ·rw [if_neg he] at hl
   refine CellsOK.mono hT hw (fun _ _ h=>h) (fun g cap' hg=>hkeep g ?_) (h.loc l c' hl)
   rintro rfl
   exact he (h.inj l l0 c' c0 g cap' cap0 hl hl0 hg hb0)
 ·intro l l' c1 c2 g cap1 cap2 hl hl' hb hb'
  have hsome : ∀ l c1,updS s l0 (some c) l=some c1→∃ c2,s l=some c2 := by
   intro l c1 hl
   unfold updS at hl
   by_cases he : l=l0
   ·subst he; exact ⟨_,hl0⟩
   ·rw [if_neg he] at hl; exact ⟨_,hl⟩
  obtain ⟨c3,h3⟩ := hsome l c1 hl
  obtain ⟨c4,h4⟩ := hsome l' c2 hl'
  exact h.inj l l' c3 c4 g cap1 cap2 h3 h4 hb hb'
 ·intro l c' g cap' hl hb
  unfold updS at hl
  by_cases he : l=l0
  ·subst he; exact h.out l c0 g cap' hl0 hb
  ·rw [if_neg he] at hl; exact h.out l c' g cap' hl hb
end
end Go.Ab

namespace Go.Ab
open Go.RowKit
structure CD where
 ty : TypeId→Option TyK
 sl : TypeId→Option (TypeId × DatK)
 ik : TypeId→Option IntKind
 str : TypeId→Bool
 bo : TypeId→Bool
 cmp : TypeId→Bool
def TyOK (P : Program) (t : TypeId) : TyK→Prop
 | .sc z=>(∃ i,P.info? t=some i∧i.size=1∧i.zero=some z)∧z.cells = #[z]∧(∃ d,P.underlying t=some d∧(match d with | .struct _=>False | .array _ _=>False | _=>True))
 | .st zs=>(∃ i,P.info? t=some i∧i.size=zs.length∧i.zero=some (.agg zs.toArray)) ∧
   ∃ fs : Array Field,P.underlying t=some (.struct fs)∧fs.size=zs.length∧∀ (j:Nat) (f : Field),fs[j]? = some f→f.offset=j∧∃ fi,P.info? f.type=some fi∧fi.size=1
 | .arr d=>(∃ i,P.info? t=some i∧i.size=d.len * d.esz∧∃ zs,i.zero=some (.agg zs)∧zs.size=d.len * d.esz∧∀ j (h : j<zs.size),zs[j]=DatK.zero d.kind)∧d.esz=1∧d.len≤1000 ∧
   (∀ k,k<d.len→d.elem k=[.v (DatK.zero d.kind)] ∨ (d.kind=.intss∧d.elem k=[.sl (.ints [])])) ∧
   ∃ e,P.underlying t=some (.array d.len e)∧∃ ei,P.info? e=some ei∧ei.size=1
def SlOK (P : Program) (t e : TypeId) (k : DatK) : Prop :=
 P.underlying t=some (.slice e)∧∃ i,P.info? e=some i∧i.zero=some k.zero∧i.size=k.esz∧i.bytes=k.bytes_
def CmpCell (P : Program) (z:Value) (t : TypeId) : Prop :=
 match z with
 | .int _ _ => ∃ k,P.underlying t=some (.int k)
 | .bool _=>P.underlying t=some .bool
 | _=>False
def CmpOK (P : Program) (t : TypeId) (zs : List Value) : Prop :=
 P.stoodInHeld t=false∧P.eqGuardType P.depth t=false∧P.underlying t=some (.struct (P.fieldsOf t))∧(P.fieldsOf t).size=zs.length ∧
  ∀ (i:Nat) (f : Field) (z:Value), (P.fieldsOf t)[i]? = some f→zs[i]? = some z→f.name≠ "_"∧f.offset=i∧CmpCell P z f.type
structure COK (P : Program) (D : CD) : Prop where
 ty : ∀ t k,D.ty t=some k→TyOK P t k
 sl : ∀ t e k,D.sl t=some (e,k)→SlOK P t e k
 ik : ∀ t k,D.ik t=some k→P.underlying t=some (.int k)
 str : ∀ t,D.str t=true→P.underlying t=some .string
 bo : ∀ t,D.bo t=true→P.underlying t=some .bool
 wide : P.follows .mixedOrders=true
 cmp : ∀ t zs,D.cmp t=true→D.ty t=some (.st zs)→CmpOK P t zs
abbrev Delta := List (Nat × Option LB)
abbrev Res := Option (AV × Delta × Prop)
def AV.core : AV→AV
 | .g _ x=>x.core
 | x=>x
def AV.cond : AV→Prop
 | .g b x=>b=true∧x.cond
 | _=>True
section
variable {w : World} {T : Nat→Prop} {β : Names}
theorem Rep.core : ∀ {x : AV} {y : Value},Rep w T β x y→x.cond→Rep w T β x.core y
 | .g b x,y,h,hc=>by
  simp only [AV.cond] at hc
  simp only [Rep] at h
  simp only [AV.core]
  exact Rep.core (h.1 hc.1) hc.2
 | .any,_,h,_=>h
 | .v _,_,h,_=>h
 | .sl _,_,h,_=>h
 | .own _ _,_,h,_=>h
 | .ptr _ _,_,h,_=>h
 | .pel _ _ _ _,_,h,_=>h
 | .ep _,_,h,_=>h
 | .agg _,_,h,_=>h
 | .tup _,_,h,_=>h
 | .fn _ _,_,h,_=>h
end
def upds (s : Heap) (δ : Delta) : Heap := δ.foldl (fun s p=>updS s p.1 p.2) s
def updu (u : Nat→Prop) (δ : Delta) : Nat→Prop := fun l=>u l ∨ l ∈ δ.map (·.1)
def Does (P : Program) (F : Fr) (e : Nat→Option AV) (s : Heap) (u : Nat→Prop) (a : Act) (w : World) (o : Oper) (x : AV) (δ : Delta) : Prop :=
 ∀ (K : Act→World→Prop) (Q : Exit→Act→World→Prop),
  (∀ y w' β',Sat F β' e (upds s δ) (updu u δ) a w'→Rep w' (Stab F β' (upds s δ) w') β' x y→K (a.put o.dst y) w')→o.wp P a w K Q
section
variable {F : Fr} {β : Names} {e : Nat→Option AV} {s : Heap} {u : Nat→Prop} {a : Act} {w : World} {P : Program} {o : Oper} {x : AV}
theorem updu_nil (u : Nat→Prop) : updu u []=u := by funext l; simp [updu]
theorem does_pure (h : Sat F β e s u a w) {y : Value} (hr : (execOp a.eval o).run P w=.ok (.value y) w) (hx : Rep w (Stab F β s w) β x y) : Does P F e s u a w o x [] := by
 intro K Q hK
 unfold Oper.wp
 rw [hr]
 exact hK y w β (by rw [updu_nil]; exact h) hx
end
def pickB : Bool→AV→AV→Option AV
 | c,.v (.bool p),.v (.bool q)=>some (.v (.bool (bif c then p else q)))
 | c,.v (.int k p),.v (.int k' q)=>if k=k' then some (.v (.int k (bif c then p else q))) else none
 | _,_,_=>none
def pickF (c a b : AV) : Res :=
 match c.core with
 | .v (.bool cb)=>(pickB cb a.core b.core).map fun r=>(r,[],c.cond∧(cb=true→a.cond)∧(cb=false→b.cond))
 | _=>none
def bitsI (op : BinOp) (k : IntKind) (x y:Int) : Int :=
 k.wrap (match op with
  | .and=>(BitVec.ofInt k.bits x &&& BitVec.ofInt k.bits y).toNat
  | .or=>(BitVec.ofInt k.bits x ||| BitVec.ofInt k.bits y).toNat
  | .xor=>(BitVec.ofInt k.bits x ^^^ BitVec.ofInt k.bits y).toNat
  | _=>(BitVec.ofInt k.bits x &&& ~~~BitVec.ofInt k.bits y).toNat)
def Fits (k : IntKind) (x:Int) : Prop := k.wrap x=x
def shlI (k : IntKind) (a b:Int) : Int := a * 2 ^ (min b.toNat k.bits)
def shrI (k : IntKind) (a b:Int) : Int := a.fdiv (2 ^ (min b.toNat k.bits))
def intF (op : BinOp) (k : IntKind) (a:Int) (k' : IntKind) (b:Int) : Option (Value × Prop) :=
 match op with
 | .shl=>some (.int k (shlI k a b),0≤b∧Fits k (shlI k a b))
 | .shr=>some (.int k (shrI k a b),0≤b)
 | .add=>if k=k' then some (.int k (a+b),Fits k (a+b)) else none
 | .sub=>if k=k' then some (.int k (a - b),Fits k (a - b)) else none
 | .mul=>if k=k' then some (.int k (a * b),Fits k (a * b)) else none
 | .quo=>if k=k' then some (.int k (a.tdiv b),b≠0∧Fits k (a.tdiv b)) else none
 | .rem=>if k=k' then some (.int k (a.tmod b),b≠0) else none
 | .and=>if k=k' then some (.int k (bitsI .and k a b),True) else none
 | .or=>if k=k' then some (.int k (bitsI .or k a b),True) else none
 | .xor=>if k=k' then some (.int k (bitsI .xor k a b),True) else none
 | .andNot=>if k=k' then some (.int k (bitsI .andNot k a b),True) else none
 | .eql=>if k=k' then some (.bool (decide (a=b)),True) else none
 | .neq=>if k=k' then some (.bool (decide (a≠b)),True) else none
 | .lss=>if k=k' then some (.bool (decide (a<b)),True) else none
 | .leq=>if k=k' then some (.bool (decide (a≤b)),True) else none
 | .gtr=>if k=k' then some (.bool (decide (b<a)),True) else none
 | .geq=>if k=k' then some (.bool (decide (b≤a)),True) else none
def binV (op : BinOp) : Value→Value→Option (Value × Prop)
 | .int k a,.int k' b=>intF op k a k' b
 | .string a,.string b =>
  match op with
  | .eql=>some (.bool (a.toList == b.toList),True)
  | .neq=>some (.bool (!(a.toList == b.toList)),True)
  | .add=>some (.string (a++b),a.size+b.size≤9223372036854775807)
  | _=>none
 | _,_=>none
def binF (D : CD) (t : TypeId) (op : BinOp) (a b : AV) : Res :=
 match a.core,b.core with
 | .v (.bool p),.v (.bool q) =>
  if D.bo t=true then
   match op with
   | .eql=>some (.v (.bool (p == q)),[],a.cond∧b.cond)
   | .neq=>some (.v (.bool (p != q)),[],a.cond∧b.cond)
   | _=>none
  else none
 | .v x,.v y=>(binV op x y).map fun r=>(.v r.1,[],a.cond∧b.cond∧r.2)
 | _,_=>none
def unF (op : UnOp) (a : AV) : Res :=
 match op,a.core with
 | .not,.v (.bool b)=>some (.v (.bool (!b)),[],a.cond)
 | .neg,.v (.int k n)=>some (.v (.int k (0 - n)),[],a.cond∧Fits k (0 - n))
 | _,_=>none
def convF (D : CD) (src dst : TypeId) (a : AV) : Res :=
 match D.ik src,D.ik dst,a.core with
 | some _,some k,.v (.int _ n)=>some (.v (.int k n),[],a.cond∧Fits k n)
 | _,_,_=>none
def nilF (a : AV) : Res :=
 match a.core with
 | .ptr l off=>some (.ptr l off,[],a.cond)
 | .pel l e k off=>some (.pel l e k off,[],a.cond)
 | .ep xs=>some (.ep xs,[],a.cond)
 | _=>none
def extF (a : AV) (i:Nat) : Res :=
 match a.core with
 | .tup xs=>(xs[i]?).map fun x=>(x,[],a.cond)
 | _=>none
def fieldAddrF (D : CD) (t : TypeId) (a : AV) (i:Nat) : Res :=
 match D.ty t with
 | some (.st zs) =>
  if i<zs.length then
   match a.core with
   | .ptr l off=>some (.ptr l (off+i),[],a.cond)
   | .pel l e k off=>some (.pel l e k (off+i),[],a.cond)
   | .ep xs=>some (.ep (xs.drop i),[],a.cond)
   | _=>none
  else none
 | _=>none
def indexAddrF (D : CD) (t : TypeId) (a ix : AV) : Res :=
 match D.sl t,ix.core with
 | some (_,kd),.v (.int _ i) =>
  match a.core with
  | .sl d=>if d.kind=kd then some (.ep (d.elem i.toNat),[],a.cond∧ix.cond∧0≤i∧i<d.len) else none
  | .own l n=>some (.pel l kd.esz i.toNat 0,[],a.cond∧ix.cond∧0≤i∧i<n)
  | _=>none
 | none,.v (.int _ i) =>
  match D.ty t,a.core with
  | some (.arr d),.ptr l off=>if off=0 then some (.pel l 1 i.toNat 0,[],a.cond∧ix.cond∧0≤i∧i<d.len) else none
  | _,_=>none
 | _,_=>none
def indexF (D : CD) (t : TypeId) (a ix : AV) : Res :=
 match D.str t,a.core,ix.core with
 | true,.v (.string st),.v (.int _ i)=>some (.v (.int .u8 (st.data.toList.getD i.toNat 0).toNat),[],a.cond∧ix.cond∧0≤i∧i<st.size)
 | _,_,_=>none
def loadCellsF (k : TyK) (xs : List AV) : Option AV :=
 match k with
 | .sc _=>xs.head?
 | .st zs=>if zs.length≤xs.length then some (.agg (xs.take zs.length)) else none
 | .arr _=>none
def loadF (D : CD) (s : Heap) (t : TypeId) (a : AV) : Res :=
 match D.ty t with
 | none=>none
 | some k =>
  match a.core with
  | .ep xs=>(loadCellsF k xs).map fun x=>(x,[],a.cond)
  | .ptr l off =>
   match s l with
   | some ⟨_,.fix xs⟩=>(loadCellsF k (xs.drop off)).map fun x=>(x,[],a.cond)
   | _=>none
  | .pel l esz i off =>
   match s l with
   | some ⟨_,.row d⟩=>if d.esz=esz then (loadCellsF k ((d.elem i).drop off)).map fun x=>(x,[],a.cond∧i<d.len) else none
   | _=>none
  | _=>none
def Dat.cut : Dat→Nat→Nat→Dat
 | .ints xs,l,h => .ints ((xs.take h).drop l)
 | .calls xs,l,h => .calls ((xs.take h).drop l)
 | .events xs,l,h => .events ((xs.take h).drop l)
 | .marks xs,l,h => .marks ((xs.take h).drop l)
 | .strs xs,l,h => .strs ((xs.take h).drop l)
 | .bytes xs,l,h => .bytes ((xs.take h).drop l)
 | .intss xs,l,h => .intss ((xs.take h).drop l)
def bndF (o : Option AV) (d:Int) : Option (Int × Prop) :=
 match o with
 | none=>some (d,True)
 | some x=>match x.core with | .v (.int _ n)=>some (n,x.cond) | _=>none
def sliceF (D : CD) (t : TypeId) (a : AV) (lo hi : Option AV) : Res :=
 match a.core with
 | .sl d =>
  match D.sl t,bndF lo 0,bndF hi d.len with
  | some (_,kd),some (l,cl),some (h,ch) =>
   if d.kind=kd then some (.sl (d.cut l.toNat h.toNat),[],a.cond∧cl∧ch∧0≤l∧l≤h∧h≤d.len) else none
  | _,_,_=>none
 | .own l0 n =>
  match D.sl t,lo,bndF hi n with
  | some _,none,some (h,ch)=>some (.own l0 h.toNat,[],a.cond∧ch∧0≤h∧h≤n)
  | _,_,_=>none
 | .v (.string st) =>
  match D.str t,bndF lo 0,bndF hi st.size with
  | true,some (l,cl),some (h,ch)=>some (.v (.string (st.extract l.toNat h.toNat)),[],a.cond∧cl∧ch∧0≤l∧l≤h∧h≤st.size)
  | _,_,_=>none
 | _=>none
def lenF (D : CD) (t : TypeId) (a : AV) : Res :=
 match a.core with
 | .sl d=>match D.sl t with | some _=>some (.v (.int .i64 d.len),[],a.cond) | none=>none
 | .own _ n=>match D.sl t with | some _=>some (.v (.int .i64 n),[],a.cond) | none=>none
 | .v (.string st)=>match D.str t with | true=>some (.v (.int .i64 st.size),[],a.cond) | _=>none
 | .v (.slice none 0 0)=>match D.sl t with | some _=>some (.v (.int .i64 0),[],a.cond) | none=>none
 | _=>none
def maxF (a b : AV) : Res :=
 match a.core,b.core with
 | .v (.int k x),.v (.int _ y)=>some (.v (.int k (max x y)),[],a.cond∧b.cond)
 | _,_=>none
def minF (a b : AV) : Res :=
 match a.core,b.core with
 | .v (.int k x),.v (.int _ y)=>some (.v (.int k (min x y)),[],a.cond∧b.cond)
 | _,_=>none
section
variable {F : Fr} {β : Names} {e : Nat→Option AV} {s : Heap} {u : Nat→Prop} {a : Act} {w : World} {P : Program} {o : Oper} {x : AV} {D : CD} {δ : Delta} {φ : Prop}
theorem run_move (h : Sat F β e s u a w) {y : Operand} (ho : o.op=.move y ∨ o.op=.assign y) (hx : opv e y=some x) : Does P F e s u a w o x [] := by
 refine does_pure h (y := a.eval y) ?_ (h.opv hx)
 unfold execOp
 rcases ho with ho | ho <;> simp [ho]
theorem run_pick (h : Sat F β e s u a w) {yc ya yb : Operand} (ho : o.op=.pick yc ya yb) {c p q : AV} (hc : opv e yc=some c) (hp : opv e ya=some p) (hq : opv e yb=some q)
  (hf : pickF c p q=some (x,δ,φ)) (hφ : φ) : δ=[]∧Does P F e s u a w o x [] := by
 have rc := h.opv hc
 have rp := h.opv hp
 have rq := h.opv hq
 unfold pickF at hf
 cases hcc : c.core <;> simp only [hcc] at hf <;> try cases hf
 rename_i v
 cases v <;> simp only at hf <;> try cases hf
 rename_i cb
 cases hpb : pickB cb p.core q.core with
 | none=>rw [hpb] at hf; cases hf
 | some r =>
  rw [hpb] at hf
  simp only [Option.map_some,Option.some.injEq,Prod.mk.injEq] at hf
  obtain ⟨rfl,rfl,rfl⟩ := hf
  refine ⟨rfl,?_⟩
  have rc' := rc.core hφ.1
  rw [hcc] at rc'
  simp only [Rep] at rc'
  refine does_pure h (y := if cb then a.eval ya else a.eval yb) ?_ ?_
  ·unfold execOp
   simp only [ho,rc']
   cases cb <;> simp [asBool]
  ·unfold pickB at hpb
   cases cb with
   | true =>
    have rp' := rp.core (hφ.2.1 rfl)
    split at hpb
    ·rename_i e1 e2 e3
     rw [e2] at rp'
     cases hpb
     simpa [Rep] using rp'
    ·rename_i e1 e2 e3
     split at hpb
     ·rw [e2] at rp'
      cases hpb
      simpa [Rep] using rp'
     ·cases hpb
    ·cases hpb
   | false =>
    have rq' := rq.core (hφ.2.2 rfl)
    split at hpb
    ·rename_i e1 e2 e3
     rw [e3] at rq'
     cases hpb
     simpa [Rep] using rq'
    ·rename_i e1 e2 e3
     split at hpb
     ·rename_i hk
      subst hk
      rw [e3] at rq'
      cases hpb
      simpa [Rep] using rq'
     ·cases hpb
    ·cases hpb
end
end Go.Ab

namespace Go.Ab
open Go.RowKit
section
variable {F : Fr} {β : Names} {e : Nat→Option AV} {s : Heap} {u : Nat→Prop} {a : Act} {w : World} {P : Program} {o : Oper} {x : AV} {D : CD} {δ : Delta} {φ : Prop}
theorem binV_run {op : BinOp} {t : TypeId} {p q : Value} {r : Value × Prop} (h : binV op p q=some r) (hφ : r.2) (xo yo : Operand) (w : World) :
  (do eqGuard op t xo yo p q; binOp op t p q : Sem Value).run P w=.ok r.1 w := by
 cases p <;> simp only [binV] at h <;> try cases h
 case int k m =>
  cases q <;> simp only at h <;> try cases h
  rename_i k' n
  cases op <;> simp only [intF] at h <;> (try split at h) <;> cases h <;> (try subst_vars)
  case int.add.isTrue.refl=>simp only [Fits] at hφ; simp [go_sem,Op.intArith,hφ]
  case int.sub.isTrue.refl=>simp only [Fits] at hφ; simp [go_sem,Op.intArith,hφ]
  case int.mul.isTrue.refl=>simp only [Fits] at hφ; simp [go_sem,Op.intArith,hφ]
  case int.quo.isTrue.refl=>have h1 := hφ.1; have h2 := hφ.2; simp only [ne_eq,Fits] at h1 h2; simp [go_sem,Op.intDiv,h1,h2]
  case int.rem.isTrue.refl=>simp only [ne_eq] at hφ; simp [go_sem,Op.intDiv,hφ]
  case int.shl.refl =>
   have h2 := hφ.2
   have h0 : ¬ n<0 := by have := hφ.1; omega
   simp only [Fits,shlI] at h2
   simp only [eqGuard,binOp,Op.shift,h0,if_false,shlI,h2]
   rfl
  case int.shr.refl =>
   have h0 : ¬ n<0 := by have hh := hφ; simp only at hh; omega
   simp [go_sem,Op.shift,h0,shrI]
  case int.neq.isTrue.refl=>simp only [eqGuard_at_int,Sem.run_bind,Sem.run_pure,Result.andThen_ok,binOp,ne_eq,not_true,if_false,Op.intCmp]; congr 2; rw [bne]; by_cases h : m=n <;> simp [h]
  case int.eql.isTrue.refl=>simp only [eqGuard_at_int,Sem.run_bind,Sem.run_pure,Result.andThen_ok,binOp,ne_eq,not_true,if_false,Op.intCmp]; congr 2
  all_goals (simp [go_sem,Op.intBits,bitsI]; done)
 case string p =>
  cases q <;> simp only at h <;> try cases h
  rename_i q
  cases op <;> simp only at h <;> cases h
  ·have h0 : ¬ ((IntKind.i64.max:Int)<((p.size+q.size:Nat):Int)) := by
    have hh := hφ
    simp only [IntKind.max_i64]
    omega
   simp only [eqGuard_at_string,Sem.run_bind,Sem.run_pure,Result.andThen_ok,binOp,Op.stringOp,gt_iff_lt,h0,if_false]
  ·simp [eqGuard_at_string,binOp,Op.stringOp]
  ·simp [eqGuard_at_string,binOp,Op.stringOp]
theorem run_equal_bool {t : TypeId} (hu : P.underlying t=some .bool) (c d:Bool) (w : World) : (Op.equal t (.bool c) (.bool d)).run P w=.ok (c == d) w := by
 unfold Op.equal Op.maxDepth
 rw [show (10000:Nat)=9999+1 from rfl]
 unfold Op.equalIn
 rw [Sem.run_bind,run_underlying hu]
 rfl
theorem run_guard_bool (op : BinOp) (t : TypeId) (xo yo : Operand) (c d:Bool) (w : World) : (eqGuard op t xo yo (.bool c) (.bool d)).run P w=.ok () w := by
 unfold eqGuard
 cases op <;> rfl
theorem run_bool_eq {t : TypeId} (hu : P.underlying t=some .bool) (c d:Bool) (w : World) : (binOp .eql t (.bool c) (.bool d)).run P w=.ok (.bool (c == d)) w := by
 unfold binOp
 simp only [Sem.run_bind,run_equal_bool hu,Result.andThen_ok,Sem.run_pure]
theorem run_bool_ne {t : TypeId} (hu : P.underlying t=some .bool) (c d:Bool) (w : World) : (binOp .neq t (.bool c) (.bool d)).run P w=.ok (.bool (c != d)) w := by
 unfold binOp
 simp only [Sem.run_bind,run_equal_bool hu,Result.andThen_ok,Sem.run_pure]
 rfl
theorem run_bin (hD : COK P D) (h : Sat F β e s u a w) {op : BinOp} {t ty : TypeId} {y z : Operand} (ho : o.op=.binOp op t y z ty) {p q : AV} (hp : opv e y=some p) (hq : opv e z=some q)
  (hf : binF D t op p q=some (x,δ,φ)) (hφ : φ) : δ=[]∧Does P F e s u a w o x [] := by
 have rp := h.opv hp
 have rq := h.opv hq
 by_cases hB : ∃ c d,p.core=.v (.bool c)∧q.core=.v (.bool d)
 ·obtain ⟨c,d,hpc,hqc⟩ := hB
  simp only [binF,hpc,hqc] at hf
  split at hf
  ·rename_i hbo
   have hu := hD.bo t hbo
   cases op <;> simp only at hf <;> cases hf <;>
   ·have rp' := rp.core hφ.1
    have rq' := rq.core hφ.2
    rw [hpc] at rp'
    rw [hqc] at rq'
    simp only [Rep] at rp' rq'
    refine ⟨rfl,does_pure h (y := .bool _) ?_ (by simp only [Rep]; rfl)⟩
    unfold execOp
    simp only [ho,rp',rq',Sem.run_bind,run_bool_eq hu,run_bool_ne hu,run_guard_bool,Result.andThen_ok,Sem.run_pure]
  ·cases hf
 have hf : ((match p.core,q.core with | .v x,.v y=>(binV op x y).map fun r=>(.v r.1,[],p.cond∧q.cond∧r.2) | _,_=>none) : Res)=some (x,δ,φ) := by
  rw [← hf]
  unfold binF
  split <;> rename_i h1 h2
  ·rename_i v1 v2
   rw [h1,h2]
   split <;> simp_all
  ·split <;> simp_all
 cases hpc : p.core <;> simp only [hpc] at hf <;> try cases hf
 cases hqc : q.core <;> simp only [hqc] at hf <;> try cases hf
 rename_i v1 v2
 cases hb : binV op v1 v2 with
 | none=>rw [hb] at hf; cases hf
 | some r =>
  rw [hb] at hf
  simp only [Option.map_some,Option.some.injEq,Prod.mk.injEq] at hf
  obtain ⟨rfl,rfl,rfl⟩ := hf
  have rp' := rp.core hφ.1
  have rq' := rq.core hφ.2.1
  rw [hpc] at rp'
  rw [hqc] at rq'
  simp only [Rep] at rp' rq'
  refine ⟨rfl,does_pure h (y := r.1) ?_ (by simp [Rep])⟩
  unfold execOp
  simp only [ho,rp',rq']
  have hr := binV_run (P := P) (t := t) hb hφ.2.2 y z w
  simp only [Sem.run_bind] at hr ⊢
  rw [hr]
  rfl
theorem run_un (h : Sat F β e s u a w) {op : UnOp} {t : TypeId} {y : Operand} (ho : o.op=.unOp op t y) {p : AV} (hp : opv e y=some p)
  (hf : unF op p=some (x,δ,φ)) (hφ : φ) : δ=[]∧Does P F e s u a w o x [] := by
 have rp := h.opv hp
 unfold unF at hf
 split at hf
 ·rename_i b hpc
  cases hf
  have rp' := rp.core hφ
  rw [hpc] at rp'
  simp only [Rep] at rp'
  refine ⟨rfl,does_pure h (y := .bool (!b)) ?_ (by simp [Rep])⟩
  unfold execOp
  simp [ho,rp',Op.unary]
 ·rename_i k n hpc
  cases hf
  have rp' := rp.core hφ.1
  rw [hpc] at rp'
  simp only [Rep] at rp'
  have hf := hφ.2
  unfold Fits at hf
  refine ⟨rfl,does_pure h (y := .int k (0 - n)) ?_ (by simp [Rep])⟩
  unfold execOp
  simp only [ho,rp',Op.unary,Op.intArith,Sem.run_bind,Sem.run_pure,Result.andThen_ok,hf]
 ·cases hf
theorem run_conv (hD : COK P D) (h : Sat F β e s u a w) {src dst : TypeId} {y : Operand} (ho : o.op=.convert src dst y) {p : AV} (hp : opv e y=some p)
  (hf : convF D src dst p=some (x,δ,φ)) (hφ : φ) : δ=[]∧Does P F e s u a w o x [] := by
 have rp := h.opv hp
 unfold convF at hf
 split at hf
 ·rename_i k1 k k2 n h1 h2 hpc
  cases hf
  have rp' := rp.core hφ.1
  rw [hpc] at rp'
  simp only [Rep] at rp'
  have u1 := hD.ik _ _ h1
  have u2 := hD.ik _ _ h2
  have hf := hφ.2
  unfold Fits at hf
  refine ⟨rfl,does_pure h (y := .int k n) ?_ (by simp [Rep])⟩
  unfold execOp
  simp [ho,rp',convert,run_underlying u1,run_underlying u2,Conv.intToInt,hf]
 ·cases hf
theorem run_nil (h : Sat F β e s u a w) {y : Operand} (ho : o.op=.nilCheck y) {p : AV} (hp : opv e y=some p)
  (hf : nilF p=some (x,δ,φ)) (hφ : φ) : δ=[]∧Does P F e s u a w o x [] := by
 have rp := h.opv hp
 unfold nilF at hf
 have key : ∀ ad,a.eval y=.pointer (some ad)→Rep w (Stab F β s w) β x (a.eval y)→Does P F e s u a w o x [] := fun ad hev hr=>by
  refine does_pure h (y := a.eval y) ?_ hr
  unfold execOp
  simp [ho,hev]
 cases hpc : p.core <;> simp only [hpc] at hf <;> cases hf <;> (have rp' := rp.core hφ; rw [hpc] at rp'; refine ⟨rfl,?_⟩)
 ·have rp2 := rp'
  simp only [Rep] at rp2
  obtain ⟨g,cap,h1,h2⟩ := rp2
  exact key _ h2 rp'
 ·have rp2 := rp'
  simp only [Rep] at rp2
  obtain ⟨g,cap,h1,h2⟩ := rp2
  exact key _ h2 rp'
 ·have rp2 := rp'
  simp only [Rep] at rp2
  obtain ⟨ad,us,h1,_⟩ := rp2
  exact key _ h1 rp'
theorem run_ext (h : Sat F β e s u a w) {y : Operand} {i : Nat} (ho : o.op=.extract y i) {p : AV} (hp : opv e y=some p)
  (hf : extF p i=some (x,δ,φ)) (hφ : φ) : δ=[]∧Does P F e s u a w o x [] := by
 have rp := h.opv hp
 unfold extF at hf
 cases hpc : p.core <;> simp only [hpc] at hf <;> try cases hf
 rename_i xs
 cases hx : xs[i]? with
 | none=>rw [hx] at hf; cases hf
 | some x' =>
  rw [hx] at hf
  simp only [Option.map_some,Option.some.injEq,Prod.mk.injEq] at hf
  obtain ⟨rfl,rfl,rfl⟩ := hf
  have rp' := rp.core hφ
  rw [hpc] at rp'
  simp only [Rep] at rp'
  obtain ⟨ys,h1,h2⟩ := rp'
  obtain ⟨y',hy',hr⟩ := h2.get hx
  refine ⟨rfl,does_pure h (y := y') ?_ hr⟩
  unfold execOp
  have hy2 : ys[i]? = some y' := by simpa using hy'
  simp [ho,h1,Instr.extract,hy2]
theorem run_sizeOf {t : TypeId} {i : TypeInfo} (h : P.info? t=some i) (w : World) : (sizeOf t).run P w=.ok i.size w := by
 simp [sizeOf,typeInfo,h]
theorem run_fieldAddr (hD : COK P D) (h : Sat F β e s u a w) {t : TypeId} {y : Operand} {i : Nat} (ho : o.op=.fieldAddr t y i) {p : AV} (hp : opv e y=some p)
  (hf : fieldAddrF D t p i=some (x,δ,φ)) (hφ : φ) : δ=[]∧Does P F e s u a w o x [] := by
 have rp := h.opv hp
 unfold fieldAddrF at hf
 cases hty : D.ty t with
 | none=>rw [hty] at hf; cases hf
 | some k =>
  rw [hty] at hf
  cases k <;> simp only at hf <;> try cases hf
  rename_i zs
  split at hf
  ·rename_i hi
   have ht := hD.ty _ _ hty
   simp only [TyOK] at ht
   obtain ⟨_,fs,hu,hfs,hall⟩ := ht
   have hfi : fs[i]? = some (fs[i]'(by omega)) := Array.getElem?_eq_getElem (by omega)
   obtain ⟨hoff,fi,hinf,hsz⟩ := hall i _ hfi
   have key : ∀ ad,a.eval y=.pointer (some ad)→Rep w (Stab F β s w) β x (.pointer (some (ad.add i)))→Does P F e s u a w o x [] := fun ad hev hr=>by
    refine does_pure h (y := .pointer (some (ad.add i))) ?_ hr
    unfold execOp
    simp [ho,hev,Instr.fieldAt,run_underlying hu,hfi,Instr.sureAddr,fieldPlace,run_sizeOf hinf,hsz,hoff]
   cases hpc : p.core <;> simp only [hpc] at hf <;> cases hf <;> (have rp' := rp.core hφ; rw [hpc] at rp'; simp only [Rep] at rp'; refine ⟨rfl,?_⟩)
   ·obtain ⟨g,cap,h1,h2⟩ := rp'
    refine key _ h2 ?_
    simp only [Rep]
    exact ⟨g,cap,h1,by rw [Addr.add_lit]⟩
   ·obtain ⟨g,cap,h1,h2⟩ := rp'
    refine key _ h2 ?_
    simp only [Rep]
    exact ⟨g,cap,h1,by rw [Addr.add_lit,Nat.add_assoc]⟩
   ·obtain ⟨ad,us,h1,h2,h3,h4⟩ := rp'
    refine key _ h1 ?_
    simp only [Rep]
    exact ⟨ad.add i,us.drop i,rfl,by rw [block_add]; exact h2,h3.drop i,fun j v hj=>by
     rw [add_add]
     rw [List.getElem?_drop] at hj
     exact h4 _ v hj⟩
  ·cases hf
theorem run_fn (h : Sat F β e s u a w) {f : Nat} {caps : Array Operand} {xs : List AV} (ho : o.op=.makeFunc (.func f) #[] caps)
  (hc : RepL w (Stab F β s w) β xs (caps.toList.map a.eval)) : Does P F e s u a w o (.fn f xs) [] := by
 refine does_pure h (y := .func (.func f) #[] (caps.map a.eval)) ?_ ?_
 ·unfold execOp
  simp [ho,Instr.makeFunc]
 ·simp only [Rep]
  exact ⟨_,rfl,by simpa using hc⟩
end
end Go.Ab

namespace Go.Ab
open Go.RowKit
section
variable {F : Fr} {β : Names} {e : Nat→Option AV} {s : Heap} {u : Nat→Prop} {a : Act} {w : World} {P : Program} {o : Oper} {x : AV} {D : CD} {δ : Delta} {φ : Prop}
theorem elems_flat {T : Nat→Prop} : ∀ {xs : List AV},(∀ x ∈ xs,∃ y,x=.v y)→RepL w T β xs (xs.map AV.val)
 | [],_=>by simp [RepL]
 | x :: xs,h=>by
  obtain ⟨y,hy⟩ := h x (by simp)
  subst hy
  simp only [List.map_cons,RepL,Rep,AV.val,true_and]
  exact elems_flat (fun x hx=>h x (by simp [hx]))
theorem Dat.elem_flat {d : Dat} (hd : d.kind≠.intss) (k:Nat) : ∀ x ∈ d.elem k,∃ y,x=.v y := by
 intro x hx
 cases d <;> simp [Dat.elem,CallD.avs,EventD.avs,MarkD.avs] at hx
 ·exact ⟨_,hx⟩
 ·rcases hx with rfl | rfl | rfl | rfl | rfl | rfl | rfl <;> exact ⟨_,rfl⟩
 ·rcases hx with rfl | rfl | rfl <;> exact ⟨_,rfl⟩
 ·rcases hx with rfl | rfl | rfl | rfl <;> exact ⟨_,rfl⟩
 ·exact ⟨_,hx⟩
 ·exact ⟨_,hx⟩
 ·exact absurd rfl hd
theorem SlRep.elem {T : Nat→Prop} {d : Dat} {y : Value} (h : SlRep w T d y) : ∃ ad0 c,y=.slice ad0 d.len c∧d.len≤c∧c≤maxLen ∧
  (0<d.len→∃ ad,ad0=some ad∧T ad.block∧∀ i,i<d.len→∃ us,RepL w T β (d.elem i) us∧∀ j v,us[j]? = some v→w.cell? ((ad.add (i * d.esz)).add j)=some v) := by
 have key : ∀ (n esz:Nat),d.len=n→d.esz=esz→d.kind≠.intss→FlatRep w T n esz d.flat y→∃ ad0 c,y=.slice ad0 d.len c∧d.len≤c∧c≤maxLen ∧
   (0<d.len→∃ ad,ad0=some ad∧T ad.block∧∀ i,i<d.len→∃ us,RepL w T β (d.elem i) us∧∀ j v,us[j]? = some v→w.cell? ((ad.add (i * d.esz)).add j)=some v) := by
  rintro n esz rfl rfl hk ⟨a0,c,h1,h2,h3,h4⟩
  refine ⟨a0,c,h1,h2,h3,fun hpos => ?_⟩
  rcases h4 with h4 | ⟨ad,h4,h5,h6⟩
  ·omega
  ·refine ⟨ad,h4,h5,fun i hi=>⟨d.flat i,elems_flat (Dat.elem_flat hk i),fun j v hj => ?_⟩⟩
   rw [add_add]
   exact h6 i j v hi hj
 cases d with
 | intss l =>
  obtain ⟨a0,c,h1,h2,h3,h4⟩ := h
  refine ⟨a0,c,h1,h2,h3,fun hpos => ?_⟩
  rcases h4 with h4 | ⟨ad,h4,h5,h6⟩
  ·simp only [Dat.len] at hpos; omega
  ·refine ⟨ad,h4,h5,fun i hi => ?_⟩
   obtain ⟨v,hv,hf⟩ := h6 i hi
   refine ⟨[v],by simp only [Dat.elem,RepL,Rep,SlRep,and_true]; exact hf,fun j v' hj => ?_⟩
   cases j with
   | zero=>simp at hj; subst hj; rw [add_add]; simpa [Dat.esz] using hv
   | succ j=>simp at hj
 | ints l=>exact key _ _ rfl rfl (by simp [Dat.kind]) h
 | calls l=>exact key _ _ rfl rfl (by simp [Dat.kind]) h
 | events l=>exact key _ _ rfl rfl (by simp [Dat.kind]) h
 | marks l=>exact key _ _ rfl rfl (by simp [Dat.kind]) h
 | strs l=>exact key _ _ rfl rfl (by simp [Dat.kind]) h
 | bytes l=>exact key _ _ rfl rfl (by simp [Dat.kind]) h
theorem Dat.esz_kind (d:Dat) : d.esz=d.kind.esz := by cases d <;> rfl
theorem run_indexAddr (hD : COK P D) (h : Sat F β e s u a w) {t : TypeId} {y z : Operand} (ho : o.op=.indexAddr t y z) {p q : AV} (hp : opv e y=some p) (hq : opv e z=some q)
  (hf : indexAddrF D t p q=some (x,δ,φ)) (hφ : φ) : δ=[]∧Does P F e s u a w o x [] := by
 have rp := h.opv hp
 have rq := h.opv hq
 unfold indexAddrF at hf
 split at hf
 ·rename_i e0 kd k i hsl hqc
  obtain ⟨hu,ii,hi1,hi2,hi3,hi4⟩ := hD.sl _ _ _ hsl
  split at hf
  ·rename_i d hpc
   split at hf
   ·rename_i hk
    cases hf
    obtain ⟨c1,c2,h0,h1⟩ := hφ
    have rp' := rp.core c1
    have rq' := rq.core c2
    rw [hpc] at rp'
    rw [hqc] at rq'
    simp only [Rep] at rp' rq'
    obtain ⟨ad0,c,e1,e2,e3,e4⟩ := SlRep.elem (β := β) rp'
    obtain ⟨ad,rfl,hT,hel⟩ := e4 (by omega)
    obtain ⟨us,hus,hcell⟩ := hel i.toNat (by omega)
    refine ⟨rfl,does_pure h (y := .pointer (some (ad.add (i.toNat * d.esz)))) ?_ ?_⟩
    ·unfold execOp
     have hesz : ii.size=d.esz := by rw [hi3,Dat.esz_kind,hk]
     simp [ho,e1,rq',Instr.indexAt,asIntOf,run_underlying hu,h0,h1,run_sizeOf hi1,hesz]
    ·simp only [Rep]
     exact ⟨_,us,rfl,by rw [block_add]; exact hT,hus,hcell⟩
   ·cases hf
  ·rename_i l n hpc
   cases hf
   obtain ⟨c1,c2,h0,h1⟩ := hφ
   have rp' := rp.core c1
   have rq' := rq.core c2
   rw [hpc] at rp'
   rw [hqc] at rq'
   simp only [Rep] at rp' rq'
   rcases rp' with ⟨_,rfl,_⟩ | ⟨g,cap,b1,b2,b3⟩
   ·omega
   ·refine ⟨rfl,does_pure h (y := .pointer (some ⟨g,i.toNat * kd.esz+0,none⟩)) ?_ ?_⟩
    ·unfold execOp
     simp [ho,b3,rq',Instr.indexAt,asIntOf,run_underlying hu,h0,h1,run_sizeOf hi1,hi3,Addr.add_lit]
    ·simp only [Rep]
     exact ⟨g,cap,b1,rfl⟩
  ·cases hf
 ·rename_i k i hsl hqc
  split at hf
  ·rename_i d l off hty hpc
   split at hf
   case isFalse=>cases hf
   rename_i hoff
   subst hoff
   cases hf
   obtain ⟨c1,c2,h0,h1⟩ := hφ
   have rp' := rp.core c1
   have rq' := rq.core c2
   rw [hpc] at rp'
   rw [hqc] at rq'
   simp only [Rep] at rp' rq'
   obtain ⟨g,cap,b1,b2⟩ := rp'
   have ht := hD.ty _ _ hty
   simp only [TyOK] at ht
   obtain ⟨_,_,_,_,e1,hu,ei,he,hes⟩ := ht
   refine ⟨rfl,does_pure h (y := .pointer (some ⟨g,i.toNat * 1+0,none⟩)) ?_ ?_⟩
   ·unfold execOp
    simp [ho,b2,rq',Instr.indexAt,asIntOf,run_underlying hu,h0,h1,run_sizeOf he,hes,Instr.sureAddr,Addr.add_lit]
   ·simp only [Rep]
    exact ⟨g,cap,b1,rfl⟩
  ·cases hf
 ·cases hf
theorem run_index (hD : COK P D) {t : TypeId} (h : Sat F β e s u a w) {y z : Operand} (ho : o.op=.index t y z) {p q : AV} (hp : opv e y=some p) (hq : opv e z=some q)
  (hf : indexF D t p q=some (x,δ,φ)) (hφ : φ) : δ=[]∧Does P F e s u a w o x [] := by
 have rp := h.opv hp
 have rq := h.opv hq
 unfold indexF at hf
 split at hf
 ·rename_i st k i hst hpc hqc
  have hD := hD.str t hst
  cases hf
  obtain ⟨c1,c2,h0,h1⟩ := hφ
  have rp' := rp.core c1
  have rq' := rq.core c2
  rw [hpc] at rp'
  rw [hqc] at rq'
  simp only [Rep] at rp' rq'
  have hlt : i.toNat<st.size := by omega
  refine ⟨rfl,does_pure h (y := .int .u8 (st.data.toList.getD i.toNat 0).toNat) ?_ (by simp [Rep])⟩
  unfold execOp
  have hg : st[i.toNat]? = some (st.data.toList.getD i.toNat 0) := by
   have hlt' : i.toNat<st.data.size := hlt
   rw [getElem?_pos st i.toNat hlt]
   simp only [List.getD_eq_getElem?_getD,Array.getElem?_toList,Option.some.injEq]
   rw [Array.getElem?_eq_getElem hlt']
   rfl
  simp [ho,rp',rq',Instr.index,asIntOf,run_underlying hD,h0,hg]
 ·cases hf
theorem loadVar_one {t : TypeId} {z : Value} (ht : TyOK P t (.sc z)) {ad : Addr} {v : Value} (hc : w.cell? ad=some v) : (loadVar t ad).run P w=.ok v w := by
 obtain ⟨_,_,d,hd,hm⟩ := ht
 have hag : (isAgg t).run P w=.ok false w := by
  cases d <;> simp only at hm <;> simp [isAgg,run_underlying hd]
 simp [loadVar,hag,hc]
theorem loadVar_st {t : TypeId} {zs : List Value} (ht : TyOK P t (.st zs)) {ad : Addr} {vs : List Value} (hl : vs.length=zs.length)
  (hc : ∀ j v,vs[j]? = some v→w.cell? (ad.add j)=some v) : (loadVar t ad).run P w=.ok (.agg vs.toArray) w := by
 obtain ⟨⟨i,hi,hs,_⟩,fs,hu,_⟩ := ht
 have hag : (isAgg t).run P w=.ok true w := by simp [isAgg,run_underlying hu]
 have hlc := run_loadCells_list (P := P) w ad vs hc
 simp [loadVar,hag,run_sizeOf hi,hs,← hl,hlc]
theorem head_get {α : Type} {l : List α} {x : α} (h : l.head? = some x) : l[0]? = some x := by cases l <;> simp_all
theorem run_load_cells (hD : COK P D) (h : Sat F β e s u a w) {t : TypeId} {y : Operand} (ho : o.op=.load t y) {k : TyK} (hk : D.ty t=some k) {ad : Addr} (hy : a.eval y=.pointer (some ad))
  {xs : List AV} {us : List Value} (hr : RepL w (Stab F β s w) β xs us) (hc : ∀ j v,us[j]? = some v→w.cell? (ad.add j)=some v)
  (hf : loadCellsF k xs=some x) : Does P F e s u a w o x [] := by
 have ht := hD.ty _ _ hk
 cases k with
 | sc z =>
  simp only [loadCellsF] at hf
  obtain ⟨v,hv,hrv⟩ := hr.get (head_get hf)
  refine does_pure h (y := v) ?_ hrv
  have := hc 0 v hv
  rw [Addr.add_zero'] at this
  unfold execOp
  simp [ho,hy,Instr.loadAt,Instr.sureAddr,loadVar_one ht this]
 | st zs =>
  simp only [loadCellsF] at hf
  split at hf
  ·rename_i hle
   cases hf
   have hlen := hr.length_eq
   refine does_pure h (y := .agg (us.take zs.length).toArray) ?_ ?_
   ·have := loadVar_st (P := P) (w := w) (ad := ad) ht (vs := us.take zs.length) (by simp; omega) (fun j v hj=>by
     rw [List.getElem?_take] at hj
     split at hj
     ·exact hc j v hj
     ·cases hj)
    unfold execOp
    simp only [ho,hy,Instr.loadAt,Instr.sureAddr,Sem.run_bind,Sem.run_pure,Result.andThen_ok,this]
   ·simp only [Rep]
    exact ⟨_,rfl,by simpa using hr.take zs.length⟩
  ·cases hf
 | arr d=>simp [loadCellsF] at hf
theorem run_load' (hD : COK P D) (h : Sat F β e s u a w) {t : TypeId} {y : Operand} (ho : o.op=.load t y) {p : AV} (hp : opv e y=some p)
  (hf : loadF D s t p=some (x,δ,φ)) (hφ : φ) : δ=[]∧Does P F e s u a w o x [] := by
 have rp := h.opv hp
 unfold loadF at hf
 cases hk : D.ty t with
 | none=>rw [hk] at hf; cases hf
 | some k =>
  rw [hk] at hf
  simp only at hf
  split at hf
  ·rename_i xs hpc
   cases hl : loadCellsF k xs with
   | none=>rw [hl] at hf; cases hf
   | some x' =>
    rw [hl] at hf
    simp only [Option.map_some,Option.some.injEq,Prod.mk.injEq] at hf
    obtain ⟨rfl,rfl,rfl⟩ := hf
    have rp' := rp.core hφ
    rw [hpc] at rp'
    simp only [Rep] at rp'
    obtain ⟨ad,us,h1,_,h3,h4⟩ := rp'
    exact ⟨rfl,run_load_cells hD h ho hk h1 h3 h4 hl⟩
  ·rename_i l off hpc
   split at hf
   ·rename_i ty xs hsl
    cases hl : loadCellsF k (xs.drop off) with
    | none=>rw [hl] at hf; cases hf
    | some x' =>
     rw [hl] at hf
     simp only [Option.map_some,Option.some.injEq,Prod.mk.injEq] at hf
     obtain ⟨rfl,rfl,rfl⟩ := hf
     have rp' := rp.core hφ
     rw [hpc] at rp'
     simp only [Rep] at rp'
     obtain ⟨g,cap,h1,h2⟩ := rp'
     have hloc := h.loc l _ hsl
     simp only [LocOK,CellsOK] at hloc
     obtain ⟨g',cap',arr,b1,b2,b3⟩ := hloc
     rw [h1] at b1
     simp only [Option.some.injEq,Bl.blk.injEq] at b1
     obtain ⟨rfl,rfl⟩ := b1
     refine ⟨rfl,run_load_cells hD h ho hk h2 (b3.drop off) (fun j v hj => ?_) hl⟩
     rw [Addr.add_lit,cell_of_row w g _ arr ty (0,0) b2]
     rw [List.getElem?_drop] at hj
     simpa using hj
   ·cases hf
  ·rename_i l esz i off hpc
   split at hf
   ·rename_i ty d hsl
    split at hf
    ·rename_i hesz
     cases hl : loadCellsF k ((d.elem i).drop off) with
     | none=>rw [hl] at hf; cases hf
     | some x' =>
      rw [hl] at hf
      simp only [Option.map_some,Option.some.injEq,Prod.mk.injEq] at hf
      obtain ⟨rfl,rfl,rfl⟩ := hf
      obtain ⟨hc1,hi⟩ := hφ
      have rp' := rp.core hc1
      rw [hpc] at rp'
      simp only [Rep] at rp'
      obtain ⟨g,cap,h1,h2⟩ := rp'
      have hloc := h.loc l _ hsl
      simp only [LocOK,CellsOK] at hloc
      rcases hloc with ⟨b1,_⟩ | ⟨g',cap',cur,b1,b2,b3,b4,b5,b6⟩
      ·rw [h1] at b1; cases b1
      ·rw [h1] at b1
       simp only [Option.some.injEq,Bl.blk.injEq] at b1
       obtain ⟨rfl,rfl⟩ := b1
       -- the cells of the element
       have hus : ∃ us,RepL w (Stab F β s w) β (d.elem i) us∧∀ j v,us[j]? = some v→cur[i * d.esz+j]? = some v := by
        have : ∀ (xs : List AV) (j0:Nat),(∀ j x,xs[j]? = some x→∃ y,cur[i * d.esz+(j0+j)]? = some y∧Rep w (Stab F β s w) β x y) →
          ∃ us,RepL w (Stab F β s w) β xs us∧∀ j v,us[j]? = some v→cur[i * d.esz+(j0+j)]? = some v := by
         intro xs
         induction xs with
         | nil=>intro j0 _; exact ⟨[],by simp [RepL],by simp⟩
         | cons x xs ih =>
          intro j0 hall
          obtain ⟨y0,hy0,hr0⟩ := hall 0 x (by simp)
          obtain ⟨us,hr,hc⟩ := ih (j0+1) (fun j x hj=>by
           obtain ⟨y,hy,hr⟩ := hall (j+1) x (by simpa using hj)
           exact ⟨y,by rw [← hy]; congr 1; omega,hr⟩)
          refine ⟨y0 :: us,by simp only [RepL]; exact ⟨hr0,hr⟩,fun j v hj => ?_⟩
          cases j with
          | zero=>simp at hj; subst hj; exact hy0
          | succ j=>simp at hj; rw [← hc j v hj]; congr 1; omega
        obtain ⟨us,h1,h2⟩ := this (d.elem i) 0 (fun j x hj=>by simpa using b6 i j x hi hj)
        exact ⟨us,h1,fun j v hj=>by simpa using h2 j v hj⟩
       obtain ⟨us,hr,hcs⟩ := hus
       refine ⟨rfl,run_load_cells hD h ho hk h2 (hr.drop off) (fun j v hj => ?_) hl⟩
       rw [List.getElem?_drop] at hj
       rw [Addr.add_lit,cell_of_row w g _ cur ty (0,0) b2,← hesz,← hcs _ v hj,Nat.add_assoc]
    ·cases hf
   ·cases hf
  ·cases hf
end
end Go.Ab

namespace Go.Ab
open Go.RowKit
section
variable {F : Fr} {β : Names} {e : Nat→Option AV} {s : Heap} {u : Nat→Prop} {a : Act} {w : World} {P : Program} {o : Oper} {x : AV} {D : CD} {δ : Delta} {φ : Prop}
def opvo (e : Nat→Option AV) : Option Operand→Option (Option AV)
 | none=>some none
 | some y=>(opv e y).map some
theorem getD_cut {α : Type} (l : List α) (d : α) {lo hi k : Nat} (h : k<hi - lo) : ((l.take hi).drop lo).getD k d=l.getD (lo+k) d := by
 simp only [List.getD_eq_getElem?_getD,List.getElem?_drop,List.getElem?_take]
 rw [if_pos (by omega)]
theorem Dat.cut_len (d:Dat) {lo hi : Nat} (h1 : lo≤hi) (h2 : hi≤d.len) : (d.cut lo hi).len=hi - lo := by
 cases d <;> simp only [Dat.len] at h2 <;> simp only [Dat.cut,Dat.len,List.length_drop,List.length_take] <;> omega
theorem FlatRep.cut {T : Nat→Prop} {n esz : Nat} {f f' : Nat→List Value} {a0 : Option Addr} {c lo hi : Nat} (h : FlatRep w T n esz f (.slice a0 n c)) (h1 : lo≤hi) (h2 : hi≤n)
  (hf : ∀ k,k<hi - lo→f' k=f (lo+k)) : FlatRep w T (hi - lo) esz f' (.slice (if c=lo then a0 else a0.map (·.add (lo * esz))) (hi - lo) (c - lo)) := by
 obtain ⟨a1,c1,e1,e2,e3,e4⟩ := h
 simp only [Value.slice.injEq] at e1
 obtain ⟨rfl,_,rfl⟩ := e1
 refine ⟨_,_,rfl,by omega,by omega,?_⟩
 by_cases h0 : hi - lo=0
 ·exact .inl h0
 ·rcases e4 with e4 | ⟨ad,e4,e5,e6⟩
  ·omega
  ·right
   rw [if_neg (by omega),e4]
   refine ⟨ad.add (lo * esz),rfl,by rw [block_add]; exact e5,fun k j v hk hj => ?_⟩
   rw [add_add,← Nat.add_assoc,← Nat.add_mul]
   exact e6 (lo+k) j v (by omega) (by rw [← hf k hk]; exact hj)
theorem SlRep.cut {T : Nat→Prop} {d : Dat} {a0 : Option Addr} {c lo hi : Nat} (h : SlRep w T d (.slice a0 d.len c)) (h1 : lo≤hi) (h2 : hi≤d.len) :
  SlRep w T (d.cut lo hi) (.slice (if c=lo then a0 else a0.map (·.add (lo * d.esz))) (hi - lo) (c - lo)) := by
 cases d with
 | intss l =>
  obtain ⟨a1,c1,e1,e2,e3,e4⟩ := h
  simp only [Value.slice.injEq] at e1
  obtain ⟨rfl,_,rfl⟩ := e1
  simp only [Dat.len] at h2
  simp only [Dat.cut,SlRep,List.length_drop,List.length_take,Nat.min_eq_left h2]
  refine ⟨_,_,rfl,by omega,by omega,?_⟩
  by_cases h0 : hi - lo=0
  ·exact .inl h0
  ·rcases e4 with e4 | ⟨ad,e4,e5,e6⟩
   ·omega
   ·right
    rw [if_neg (by omega),e4]
    refine ⟨ad.add (lo * 1),by simp [Dat.esz],by rw [block_add]; exact e5,fun k hk => ?_⟩
    obtain ⟨v,hv,hr⟩ := e6 (lo+k) (by omega)
    rw [getD_cut _ _ hk]
    exact ⟨v,by rw [add_add,Nat.mul_one]; exact hv,hr⟩
 | ints l =>
  simp only [Dat.len] at h2
  have hm : min hi l.length=hi := Nat.min_eq_left h2
  simp only [Dat.cut,SlRep,List.length_drop,List.length_take,hm]
  exact FlatRep.cut (f' := (Dat.ints ((l.take hi).drop lo)).flat) h h1 h2 (fun k hk=>by simp only [Dat.flat,Dat.elem,getD_cut _ _ hk])
 | calls l =>
  simp only [Dat.len] at h2
  have hm : min hi l.length=hi := Nat.min_eq_left h2
  simp only [Dat.cut,SlRep,List.length_drop,List.length_take,hm]
  exact FlatRep.cut (f' := (Dat.calls ((l.take hi).drop lo)).flat) h h1 h2 (fun k hk=>by simp only [Dat.flat,Dat.elem,getD_cut _ _ hk])
 | events l =>
  simp only [Dat.len] at h2
  have hm : min hi l.length=hi := Nat.min_eq_left h2
  simp only [Dat.cut,SlRep,List.length_drop,List.length_take,hm]
  exact FlatRep.cut (f' := (Dat.events ((l.take hi).drop lo)).flat) h h1 h2 (fun k hk=>by simp only [Dat.flat,Dat.elem,getD_cut _ _ hk])
 | marks l =>
  simp only [Dat.len] at h2
  have hm : min hi l.length=hi := Nat.min_eq_left h2
  simp only [Dat.cut,SlRep,List.length_drop,List.length_take,hm]
  exact FlatRep.cut (f' := (Dat.marks ((l.take hi).drop lo)).flat) h h1 h2 (fun k hk=>by simp only [Dat.flat,Dat.elem,getD_cut _ _ hk])
 | strs l =>
  simp only [Dat.len] at h2
  have hm : min hi l.length=hi := Nat.min_eq_left h2
  simp only [Dat.cut,SlRep,List.length_drop,List.length_take,hm]
  exact FlatRep.cut (f' := (Dat.strs ((l.take hi).drop lo)).flat) h h1 h2 (fun k hk=>by simp only [Dat.flat,Dat.elem,getD_cut _ _ hk])
 | bytes l =>
  simp only [Dat.len] at h2
  have hm : min hi l.length=hi := Nat.min_eq_left h2
  simp only [Dat.cut,SlRep,List.length_drop,List.length_take,hm]
  exact FlatRep.cut (f' := (Dat.bytes ((l.take hi).drop lo)).flat) h h1 h2 (fun k hk=>by simp only [Dat.flat,Dat.elem,getD_cut _ _ hk])
theorem run_bounds (isSl:Bool) {len cap : Nat} {lo hi : Option Value} {l h : Int} (hlo : (lo=none∧l=0) ∨ ∃ k,lo=some (.int k l)) (hhi : (hi=none∧h=len) ∨ ∃ k,hi=some (.int k h))
  (h0 : 0≤l) (h1 : l≤h) (h2 : h≤cap) (w : World) :
  (Instr.sliceBounds isSl len cap lo hi none).run P w=.ok (l.toNat,h.toNat,cap) w := by
 have hh : 0≤h := by omega
 have hl : l≤(h.toNat:Int) := by omega
 rcases hlo with ⟨rfl,rfl⟩ | ⟨k,rfl⟩ <;> rcases hhi with ⟨rfl,rfl⟩ | ⟨k',rfl⟩
 ·simp [Instr.sliceBounds]
 ·simp [Instr.sliceBounds,run_sliceBound w k' h cap _ hh h2]
 ·have := run_sliceBound (P := P) w k l len .sliceB h0 (by omega)
  simp [Instr.sliceBounds,this]
 ·have := run_sliceBound (P := P) w k l h.toNat .sliceB h0 hl
  simp [Instr.sliceBounds,run_sliceBound w k' h cap _ hh h2,this]
theorem bnd_ok (h : Sat F β e s u a w) {lo : Option Operand} {vo : Option AV} {d l : Int} {c : Prop} (hv : opvo e lo=some vo) (hb : bndF vo d=some (l,c)) (hc : c) :
  (lo.map a.eval=none∧l=d) ∨ ∃ k,lo.map a.eval=some (.int k l) := by
 cases lo with
 | none =>
  simp only [opvo,Option.some.injEq] at hv
  subst hv
  simp only [bndF,Option.some.injEq,Prod.mk.injEq] at hb
  exact .inl ⟨rfl,hb.1.symm⟩
 | some y =>
  simp only [opvo] at hv
  cases hy : opv e y with
  | none=>rw [hy] at hv; cases hv
  | some v =>
   rw [hy] at hv
   simp only [Option.map_some,Option.some.injEq] at hv
   subst hv
   simp only [bndF] at hb
   split at hb
   ·rename_i k n hvc
    simp only [Option.some.injEq,Prod.mk.injEq] at hb
    obtain ⟨rfl,rfl⟩ := hb
    have hr := (h.opv hy).core hc
    rw [hvc] at hr
    simp only [Rep] at hr
    exact .inr ⟨k,by simp [hr]⟩
   ·cases hb
theorem run_slice (hD : COK P D) (h : Sat F β e s u a w) {t : TypeId} {y : Operand} {lo hi : Option Operand} (ho : o.op=.slice t y lo hi none) {p : AV} {vlo vhi : Option AV}
  (hp : opv e y=some p) (hlo : opvo e lo=some vlo) (hhi : opvo e hi=some vhi)
  (hf : sliceF D t p vlo vhi=some (x,δ,φ)) (hφ : φ) : δ=[]∧Does P F e s u a w o x [] := by
 have rp := h.opv hp
 unfold sliceF at hf
 split at hf
 ·rename_i d hpc
  split at hf
  ·rename_i e0 kd l cl hh ch hsl hbl hbh
   split at hf
   ·rename_i hk
    cases hf
    obtain ⟨c1,c2,c3,h0,h1,h2⟩ := hφ
    have rp' := rp.core c1
    rw [hpc] at rp'
    simp only [Rep] at rp'
    obtain ⟨a0,c,e1,e2,e3,_⟩ := SlRep.elem (β := β) rp'
    obtain ⟨hu,ii,hi1,hi2,hi3,hi4⟩ := hD.sl _ _ _ hsl
    rw [e1] at rp'
    refine ⟨rfl,does_pure h (y := _) ?_ (by simp only [Rep]; exact SlRep.cut rp' (lo := l.toNat) (hi := hh.toNat) (by omega) (by omega))⟩
    have hb := run_bounds (P := P) true (len := d.len) (cap := c) (bnd_ok h hlo hbl c2) (bnd_ok h hhi hbh c3) h0 h1 (by omega) w
    unfold execOp
    have hesz : ii.size=d.esz := by rw [hi3,Dat.esz_kind,hk]
    simp [ho,e1,Instr.sliceAt,Instr.slice,run_underlying hu,hb,run_sizeOf hi1,hesz]
   ·cases hf
  ·cases hf
 ·rename_i l0 n hpc
  split at hf
  ·rename_i ek hh ch hsl hbh
   cases hf
   obtain ⟨c1,c3,h1,h2⟩ := hφ
   have rp' := rp.core c1
   rw [hpc] at rp'
   simp only [Rep] at rp'
   obtain ⟨e0,kd⟩ := ek
   obtain ⟨hu,ii,hi1,hi2,hi3,hi4⟩ := hD.sl _ _ _ hsl
   rcases rp' with ⟨b1,rfl,b3⟩ | ⟨g,cap,b1,b2,b3⟩
   ·have hh0 : hh=0 := by omega
    subst hh0
    refine ⟨rfl,does_pure h (y := .slice none 0 0) ?_ (by simp only [Rep]; exact .inl ⟨b1,rfl,rfl⟩)⟩
    have hb := run_bounds (P := P) true (len := 0) (cap := 0) (bnd_ok h hlo (d := 0) (l := 0) (c := True) rfl trivial) (bnd_ok h hhi hbh c3) (Int.le_refl _) h1 (by omega) w
    unfold execOp
    simp [ho,b3,Instr.sliceAt,Instr.slice,run_underlying hu,hb,run_sizeOf hi1]
   ·refine ⟨rfl,does_pure h (y := .slice (some ⟨g,0,none⟩) hh.toNat cap) ?_ (by simp only [Rep]; exact .inr ⟨g,cap,b1,by omega,rfl⟩)⟩
    have hb := run_bounds (P := P) true (len := n) (cap := cap) (bnd_ok h hlo (d := 0) (l := 0) (c := True) rfl trivial) (bnd_ok h hhi hbh c3) (Int.le_refl _) h1 (by omega) w
    unfold execOp
    simp [ho,b3,Instr.sliceAt,Instr.slice,run_underlying hu,hb,run_sizeOf hi1,Addr.add]
  ·cases hf
 ·rename_i st hpc
  split at hf
  ·rename_i l cl hh ch hst hbl hbh
   cases hf
   obtain ⟨c1,c2,c3,h0,h1,h2⟩ := hφ
   have rp' := rp.core c1
   rw [hpc] at rp'
   simp only [Rep] at rp'
   have hu := hD.str t hst
   refine ⟨rfl,does_pure h (y := .string (st.extract l.toNat hh.toNat)) ?_ (by simp [Rep])⟩
   have hb := run_bounds (P := P) false (len := st.size) (cap := st.size) (bnd_ok h hlo hbl c2) (bnd_ok h hhi hbh c3) h0 h1 (by omega) w
   unfold execOp
   simp [ho,rp',Instr.sliceAt,Instr.slice,run_underlying hu,hb]
  ·cases hf
 ·cases hf
theorem run_len (hD : COK P D) (h : Sat F β e s u a w) {t : TypeId} {y : Operand} (ho : o.op=.call { callee := .builtin .len,args := #[y],argTypes := #[t] }) {p : AV} (hp : opv e y=some p)
  (hf : lenF D t p=some (x,δ,φ)) (hφ : φ) : δ=[]∧Does P F e s u a w o x [] := by
 have rp := h.opv hp
 unfold lenF at hf
 have hex : ∀ y' : Value,a.eval y=y'→∀ r : Value,(Builtin.len_ #[t] o.type #[y']).run P w=.ok r w→(execOp a.eval o).run P w=.ok (.value r) w := by
  intro y' hy r hr
  unfold execOp
  simp only [ho,resolve,invoke,builtin,Sem.run_bind,Sem.run_pure,Result.andThen_ok,List.map_toArray,List.map_cons,List.map_nil,hy,hr]
 split at hf
 ·rename_i d hpc
  split at hf
  ·rename_i ek hsl
   obtain ⟨e0,kd⟩ := ek
   obtain ⟨hu,_⟩ := hD.sl _ _ _ hsl
   cases hf
   have rp' := rp.core hφ
   rw [hpc] at rp'
   simp only [Rep] at rp'
   obtain ⟨a0,c,e1,e2,e3,_⟩ := SlRep.elem (β := β) rp'
   exact ⟨rfl,does_pure h (hex _ e1 _ (by simp [Builtin.len_,run_underlying hu]; rfl)) (by simp [Rep,goInt])⟩
  ·cases hf
 ·rename_i l n hpc
  split at hf
  ·rename_i ek hsl
   obtain ⟨e0,kd⟩ := ek
   obtain ⟨hu,_⟩ := hD.sl _ _ _ hsl
   cases hf
   have rp' := rp.core hφ
   rw [hpc] at rp'
   simp only [Rep] at rp'
   rcases rp' with ⟨_,rfl,b3⟩ | ⟨g,cap,b1,b2,b3⟩
   ·exact ⟨rfl,does_pure h (hex _ b3 _ (by simp [Builtin.len_,run_underlying hu]; rfl)) (by simp [Rep,goInt])⟩
   ·exact ⟨rfl,does_pure h (hex _ b3 _ (by simp [Builtin.len_,run_underlying hu]; rfl)) (by simp [Rep,goInt])⟩
  ·cases hf
 ·rename_i st hpc
  split at hf
  ·rename_i hst
   have hu := hD.str t hst
   cases hf
   have rp' := rp.core hφ
   rw [hpc] at rp'
   simp only [Rep] at rp'
   exact ⟨rfl,does_pure h (hex _ rp' _ (by simp [Builtin.len_,run_underlying hu]; rfl)) (by simp [Rep,goInt])⟩
  ·cases hf
 ·rename_i hpc
  split at hf
  ·rename_i ek hsl
   obtain ⟨e0,kd⟩ := ek
   obtain ⟨hu,_⟩ := hD.sl _ _ _ hsl
   cases hf
   have rp' := rp.core hφ
   rw [hpc] at rp'
   simp only [Rep] at rp'
   exact ⟨rfl,does_pure h (hex _ rp' _ (by simp [Builtin.len_,run_underlying hu]; rfl)) (by simp [Rep,goInt])⟩
  ·cases hf
 ·cases hf
theorem run_max (h : Sat F β e s u a w) {ts : Array TypeId} {y z : Operand} (ho : o.op=.call { callee := .builtin .max,args := #[y,z],argTypes := ts }) {p q : AV} (hp : opv e y=some p) (hq : opv e z=some q)
  (hf : maxF p q=some (x,δ,φ)) (hφ : φ) : δ=[]∧Does P F e s u a w o x [] := by
 have rp := h.opv hp
 have rq := h.opv hq
 unfold maxF at hf
 split at hf
 ·rename_i k n k' m hpc hqc
  cases hf
  have rp' := rp.core hφ.1
  have rq' := rq.core hφ.2
  rw [hpc] at rp'
  rw [hqc] at rq'
  simp only [Rep] at rp' rq'
  refine ⟨rfl,does_pure h (y := .int k (max n m)) ?_ (by simp [Rep])⟩
  unfold execOp
  have : (if m > n then m else n)=max n m := by omega
  simp only [ho,resolve,invoke,builtin,Sem.run_bind,Sem.run_pure,Result.andThen_ok,List.map_toArray,List.map_cons,List.map_nil,rp',rq',Builtin.max_,List.foldlM,Builtin.max2,this]
 ·cases hf
theorem run_min (h : Sat F β e s u a w) {ts : Array TypeId} {y z : Operand} (ho : o.op=.call { callee := .builtin .min,args := #[y,z],argTypes := ts }) {p q : AV} (hp : opv e y=some p) (hq : opv e z=some q)
  (hf : minF p q=some (x,δ,φ)) (hφ : φ) : δ=[]∧Does P F e s u a w o x [] := by
 have rp := h.opv hp
 have rq := h.opv hq
 unfold minF at hf
 split at hf
 ·rename_i k n k' m hpc hqc
  cases hf
  have rp' := rp.core hφ.1
  have rq' := rq.core hφ.2
  rw [hpc] at rp'
  rw [hqc] at rq'
  simp only [Rep] at rp' rq'
  refine ⟨rfl,does_pure h (y := .int k (min n m)) ?_ (by simp [Rep])⟩
  unfold execOp
  have : (if m<n then m else n)=min n m := by omega
  simp only [ho,resolve,invoke,builtin,Sem.run_bind,Sem.run_pure,Result.andThen_ok,List.map_toArray,List.map_cons,List.map_nil,rp',rq',Builtin.min_,List.foldlM,Builtin.min2,this]
 ·cases hf
end
end Go.Ab

namespace Go.Ab
open Go.RowKit
def AV.one : AV→Bool
 | .v x=>x.oneCell'
 | .sl _=>true
 | .own _ _=>true
 | .ptr _ _=>true
 | .pel _ _ _ _=>true
 | .ep _=>true
 | .fn _ _=>true
 | _=>false
def AV.cellsL : AV→List AV
 | .agg xs=>xs
 | x => [x]
def allOne : List AV→Bool
 | []=>true
 | x :: xs=>x.one && allOne xs
def TyK.zeros : TyK→Cells
 | .sc z => .fix [.v z]
 | .st zs => .fix (zs.map .v)
 | .arr d => .row d
def allocF (D : CD) (nm:Nat) (t : TypeId) : Res :=
 match D.ty t with
 | some k=>some (.ptr nm 0,[(nm,some ⟨t,k.zeros⟩)],True)
 | none=>none
def boxF (D : CD) (nm:Nat) (t : TypeId) (a : AV) : Res :=
 match D.ty t,a.core with
 | some (.st zs),.agg xs=>if xs.length=zs.length then some (.ptr nm 0,[(nm,some ⟨t,.fix xs⟩)],a.cond) else none
 | some (.sc _),x=>if x.one then some (.ptr nm 0,[(nm,some ⟨t,.fix [x]⟩)],a.cond) else none
 | _,_=>none
def CallD.setF (c:CallD) : Nat→Int→Option CallD
 | 0,n=>some { c with proc := n }
 | 1,n=>some { c with obj := n }
 | 2,n=>some { c with kind := n }
 | 3,n=>some { c with arg := n }
 | 4,n=>some { c with ret := n }
 | 5,n=>some { c with frm := n }
 | 6,n=>some { c with to := n }
 | _,_=>none
def EventD.setF (c : EventD) : Nat→Int→Option EventD
 | 0,n=>some { c with proc := n }
 | 1,n=>some { c with kind := n }
 | 2,n=>some { c with msg := n }
 | _,_=>none
def MarkD.setF (c : MarkD) : Nat→Value→Option MarkD
 | 0,.int .i64 n=>some { c with value := n }
 | 1,.int .i64 n=>some { c with proc := n }
 | 2,.int .i64 n=>some { c with number := n }
 | 3,.bool b=>some { c with gone := b }
 | _,_=>none
def Dat.setF : Dat→Nat→Nat→AV→Option Dat
 | .ints l,i,0,.v (.int .i64 n)=>some (.ints (l.set i n))
 | .calls l,i,off,.v (.int .i64 n)=>((l.getD i default).setF off n).map fun c => .calls (l.set i c)
 | .events l,i,off,.v (.int .i64 n)=>((l.getD i default).setF off n).map fun c => .events (l.set i c)
 | .marks l,i,off,.v x=>((l.getD i default).setF off x).map fun c => .marks (l.set i c)
 | .strs l,i,0,.v (.string n)=>some (.strs (l.set i n))
 | .intss l,i,0,.sl (.ints n)=>some (.intss (l.set i n))
 | _,_,_,_=>none
def getInt : List AV→Option Int
 | [.v (.int .i64 n)]=>some n
 | _=>none
def getCall : List AV→Option CallD
 | [.v (.int .i64 a),.v (.int .i64 b),.v (.int .i64 c),.v (.int .i64 d),.v (.int .i64 e),.v (.int .i64 f),.v (.int .i64 g)]=>some ⟨a,b,c,d,e,f,g⟩
 | _=>none
def getEvent : List AV→Option EventD
 | [.v (.int .i64 a),.v (.int .i64 b),.v (.int .i64 c)]=>some ⟨a,b,c⟩
 | _=>none
def getMark : List AV→Option MarkD
 | [.v (.int .i64 a),.v (.int .i64 b),.v (.int .i64 c),.v (.bool d)]=>some ⟨a,b,c,d⟩
 | _=>none
def getStr : List AV→Option ByteArray
 | [.v (.string s)]=>some s
 | _=>none
def getInts : List AV→Option (List Int)
 | [.sl (.ints l)]=>some l
 | [.v (.slice none 0 0)]=>some []
 | _=>none
def Dat.setRow : Dat→Nat→List AV→Option Dat
 | .calls l,i,xs=>(getCall xs).map fun c => .calls (l.set i c)
 | .events l,i,xs=>(getEvent xs).map fun c => .events (l.set i c)
 | .marks l,i,xs=>(getMark xs).map fun c => .marks (l.set i c)
 | _,_,_=>none
def storeF (D : CD) (s : Heap) (t : TypeId) (p x : AV) : Res :=
 match D.ty t,p.core,x.core with
 | some (.st zs),.ptr l off,.agg ys =>
  match s l with
  | some ⟨ty,.fix xs⟩=>if off=0∧xs.length=zs.length∧ys.length=zs.length∧allOne ys=true then some (.any,[(l,some ⟨ty,.fix ys⟩)],p.cond∧x.cond) else none
  | _=>none
 | some (.st zs),.pel l esz i off,.agg ys =>
  match s l with
  | some ⟨ty,.row d⟩ =>
   if off=0∧d.esz=esz∧zs.length=esz∧ys.length=esz∧allOne ys=true then (d.setRow i ys).map fun d'=>(.any,[(l,some ⟨ty,.row d'⟩)],p.cond∧x.cond∧i<d.len) else none
  | _=>none
 | some (.sc _),.ptr l off,y =>
  match s l with
  | some ⟨ty,.fix xs⟩=>if off<xs.length∧y.one=true then some (.any,[(l,some ⟨ty,.fix (xs.set off y)⟩)],p.cond∧x.cond) else none
  | _=>none
 | some (.sc _),.pel l esz i off,y =>
  match s l with
  | some ⟨ty,.row d⟩ =>
   if d.esz=esz∧y.one=true then (d.setF i off y).map fun d'=>(.any,[(l,some ⟨ty,.row d'⟩)],p.cond∧x.cond∧i<d.len) else none
  | _=>none
 | _,_,_=>none
section
variable {F : Fr} {β : Names} {e : Nat→Option AV} {s : Heap} {u : Nat→Prop} {a : Act} {w : World} {P : Program} {o : Oper} {x : AV} {D : CD} {δ : Delta} {φ : Prop}
theorem Rep.one {T : Nat→Prop} {x : AV} {y : Value} (h : Rep w T β x y) (h1 : x.one=true) : y.oneCell' = true := by
 cases x <;> simp only [AV.one] at h1 <;> try cases h1
 ·simp only [Rep] at h; subst h; exact h1
 ·simp only [Rep] at h
  obtain ⟨a0,c,rfl,_⟩ := SlRep.elem (β := β) h
  rfl
 ·simp only [Rep] at h
  rcases h with ⟨_,_,rfl⟩ | ⟨_,_,_,_,rfl⟩ <;> rfl
 ·simp only [Rep] at h; obtain ⟨_,_,_,rfl⟩ := h; rfl
 ·simp only [Rep] at h; obtain ⟨_,_,_,rfl⟩ := h; rfl
 ·simp only [Rep] at h; obtain ⟨_,_,rfl,_⟩ := h; rfl
 ·simp only [Rep] at h; obtain ⟨_,rfl,_⟩ := h; rfl
theorem cells_one {y : Value} (h : y.oneCell' = true) : y.cells = #[y] := by cases y <;> simp_all [Value.oneCell',Value.cells]
theorem RepL.one {T : Nat→Prop} : ∀ {xs : List AV} {ys : List Value},RepL w T β xs ys→allOne xs=true→∀ y ∈ ys,y.oneCell' = true
 | [],[],_,_=>by simp
 | x :: xs,y :: ys,h,h1=>by
  simp only [RepL] at h
  simp only [allOne,Bool.and_eq_true] at h1
  intro z hz
  rcases List.mem_cons.1 hz with rfl | hz
  ·exact h.1.one h1.1
  ·exact RepL.one h.2 h1.2 z hz
 | [],_ :: _,h,_=>by simp [RepL] at h
 | _ :: _,[],h,_=>by simp [RepL] at h
theorem repL_vals {T : Nat→Prop} : ∀ (zs : List Value),RepL w T β (zs.map AV.v) zs
 | []=>by simp [RepL]
 | z :: zs=>by simp only [List.map_cons,RepL,Rep,true_and]; exact repL_vals zs
theorem upds_one (s : Heap) (l:Nat) (c : Option LB) : upds s [(l,c)]=updS s l c := rfl
theorem updu_one (u : Nat→Prop) (l:Nat) (c : Option LB) : updu u [(l,c)]=fun k=>u k ∨ k=l := by funext k; simp [updu]
theorem does_new (h : Sat F β e s u a w) {nm : Nat} (hnm : ¬ u nm) {c : LB} {arr : Array Value} {cap : Nat} (hr : (execOp a.eval o).run P w=.ok (.value (.pointer (some ⟨w.heap.size,0,none⟩))) (w.alloc (.cells arr c.ty)))
  (hc : ∀ (T : Nat→Prop) (β' : Names),(∀ b,Stab F β s w b→T b)→(∀ l p,β l=some p→β' l=some p)→β' nm=some (.blk w.heap.size cap) →
   CellsOK (w.alloc (.cells arr c.ty)) T β' nm c.ty c.c) : Does P F e s u a w o (.ptr nm 0) [(nm,some c)] := by
 intro K Q hK
 unfold Oper.wp
 rw [hr]
 have hsat := h.alloc (w' := w.alloc (.cells arr c.ty)) hnm (c := c) (arr := arr) (cap := cap) rfl rfl rfl rfl hc
 refine hK _ _ (updB β nm (.blk w.heap.size cap)) ?_ ?_
 ·rw [upds_one,updu_one]; exact hsat
 ·simp only [Rep]
  exact ⟨w.heap.size,cap,by simp [updB],rfl⟩
theorem heap_new (w : World) (o : Obj) : (w.alloc o).heap[w.heap.size]? = some o := by
 show (w.heap.push o)[w.heap.size]? = some o
 simp
theorem run_alloc' (hD : COK P D) (h : Sat F β e s u a w) {nm : Nat} (hnm : ¬ u nm) {t : TypeId} (ho : o.op=.alloc t) (hf : allocF D nm t=some (x,δ,φ)) : Does P F e s u a w o x δ := by
 unfold allocF at hf
 cases hk : D.ty t with
 | none=>rw [hk] at hf; cases hf
 | some k =>
  rw [hk] at hf
  cases hf
  have ht := hD.ty _ _ hk
  have hz : ∃ zv,(zeroValue t).run P w=.ok zv w∧∃ cap,∀ (T : Nat→Prop) (β' : Names),β' nm=some (.blk w.heap.size cap)→CellsOK (w.alloc (.cells zv.cells t)) T β' nm t k.zeros := by
   cases k with
   | sc z =>
    obtain ⟨⟨i,hi,_,hiz⟩,hzc,_⟩ := ht
    refine ⟨z,by simp [zeroValue,typeInfo,hi,hiz],0,fun T β' hb => ?_⟩
    simp only [TyK.zeros,CellsOK]
    exact ⟨w.heap.size,0,z.cells,hb,heap_new _ _,by rw [hzc]; simp [RepL,Rep]⟩
   | st zs =>
    obtain ⟨⟨i,hi,_,hiz⟩,_⟩ := ht
    refine ⟨.agg zs.toArray,by simp [zeroValue,typeInfo,hi,hiz],0,fun T β' hb => ?_⟩
    simp only [TyK.zeros,CellsOK]
    exact ⟨w.heap.size,0,zs.toArray,hb,heap_new _ _,repL_vals zs⟩
   | arr d =>
    obtain ⟨⟨i,hi,hsz,zs,hiz,hzl,hzs⟩,hesz,hlen,hel,_⟩ := ht
    refine ⟨.agg zs,by simp [zeroValue,typeInfo,hi,hiz],d.len,fun T β' hb => ?_⟩
    simp only [TyK.zeros,CellsOK]
    refine .inr ⟨w.heap.size,d.len,zs,hb,heap_new _ _,Nat.le_refl _,by unfold maxLen; omega,hzl,?_⟩
    intro k j y hk hj
    have hlt : k<zs.size := by rw [hzl,hesz]; omega
    rcases hel k hk with h1 | ⟨h1,h2⟩
    ·rw [h1] at hj
     cases j with
     | zero =>
      simp at hj; subst hj
      refine ⟨_,by rw [hesz,Nat.mul_one,Nat.add_zero,Array.getElem?_eq_getElem hlt,hzs k hlt],by simp [Rep]⟩
     | succ j=>simp at hj
    ·rw [h2] at hj
     cases j with
     | zero =>
      simp at hj; subst hj
      refine ⟨_,by rw [hesz,Nat.mul_one,Nat.add_zero,Array.getElem?_eq_getElem hlt,hzs k hlt,h1],?_⟩
      simp only [Rep,DatK.zero]
      exact sl_of_nil rfl
     | succ j=>simp at hj
  obtain ⟨zv,hzr,cap,hc⟩ := hz
  refine does_new h hnm (c := ⟨t,k.zeros⟩) (arr := zv.cells) (cap := cap) ?_ (fun T β' _ _ hb=>hc T β' hb)
  unfold execOp
  simp [ho,Instr.alloc,hzr,newVar,newRow]
theorem run_box (h : Sat F β e s u a w) {nm : Nat} (hnm : ¬ u nm) {t : TypeId} {y : Operand} (ho : o.op=.box t y) {p : AV} (hp : opv e y=some p)
  (hf : boxF D nm t p=some (x,δ,φ)) (hφ : φ) : Does P F e s u a w o x δ := by
 have rp := h.opv hp
 have key : ∀ (xs : List AV) (arr : Array Value),(a.eval y).cells=arr→RepL w (Stab F β s w) β xs arr.toList→Does P F e s u a w o (.ptr nm 0) [(nm,some ⟨t,.fix xs⟩)] := by
  intro xs arr harr hxs
  refine does_new h hnm (c := ⟨t,.fix xs⟩) (arr := arr) (cap := 0) ?_ ?_
  ·unfold execOp
   simp [ho,Instr.box,newVar,newRow,harr]
  ·intro T β' hT hβ hb
   simp only [CellsOK]
   refine ⟨w.heap.size,0,arr,hb,heap_new _ _,RepL.mono hT (fun b hb => ?_) xs _ (fun l _ p hp=>hβ l p hp) hxs⟩
   exact Below.heap_alloc w _ b (Stab.lt h hb)
 unfold boxF at hf
 split at hf
 ·rename_i zs xs hk hpc
  split at hf
  ·cases hf
   have rp' := rp.core hφ
   rw [hpc] at rp'
   simp only [Rep] at rp'
   obtain ⟨ys,h1,h2⟩ := rp'
   exact key xs ys (by rw [h1]; rfl) h2
  ·cases hf
 ·rename_i z y' hk hpc
  split at hf
  ·rename_i h1
   cases hf
   have rp' := rp.core hφ
   exact key [p.core] #[a.eval y] (cells_one (rp'.one h1)) (by simp only [RepL,and_true]; exact rp')
  ·cases hf
 ·cases hf
theorem setF_spec {d d' : Dat} {i off : Nat} {x : AV} (h : d.setF i off x=some d') (hi : i<d.len) :
  d'.len=d.len∧d'.esz=d.esz∧off<d.esz∧∀ k j,k<d.len→(d'.elem k)[j]? = if k=i∧j=off then some x else (d.elem k)[j]? := by
 have gs : ∀ {α : Type} (l : List α) (dv v : α) (k:Nat),i<l.length→(l.set i v).getD k dv=if k=i then v else l.getD k dv := by
  intro α l dv v k hl
  simp only [List.getD_eq_getElem?_getD,List.getElem?_set]
  by_cases h1 : i=k
  ·subst h1; simp [hl]
  ·simp [h1,Ne.symm h1]
 unfold Dat.setF at h
 split at h
 ·rename_i l n
  cases h
  simp only [Dat.len] at hi
  refine ⟨by simp [Dat.len],rfl,by simp [Dat.esz],fun k j hk => ?_⟩
  simp only [Dat.elem,gs l _ _ k hi]
  by_cases h1 : k=i <;> rcases j with _ | j <;> simp [h1]
 ·rename_i l n
  cases hs : (l.getD i default).setF off n with
  | none=>rw [hs] at h; cases h
  | some c =>
   rw [hs] at h
   cases h
   simp only [Dat.len] at hi
   have hoff : off<7 := by
    rcases off with _ | _ | _ | _ | _ | _ | _ | off <;> first | omega | (simp [CallD.setF] at hs)
   refine ⟨by simp [Dat.len],rfl,hoff,fun k j hk => ?_⟩
   simp only [Dat.elem,gs l _ _ k hi]
   by_cases h1 : k=i
   ·subst h1
    simp only [if_true,true_and]
    rcases off with _ | _ | _ | _ | _ | _ | _ | off <;> simp only [CallD.setF,Option.some.injEq,reduceCtorEq] at hs <;> subst hs <;>
     (rcases j with _ | _ | _ | _ | _ | _ | _ | j <;> simp [CallD.avs])
   ·simp [h1]
 ·rename_i l n
  cases hs : (l.getD i default).setF off n with
  | none=>rw [hs] at h; cases h
  | some c =>
   rw [hs] at h
   cases h
   simp only [Dat.len] at hi
   have hoff : off<3 := by
    rcases off with _ | _ | _ | off <;> first | omega | (simp [EventD.setF] at hs)
   refine ⟨by simp [Dat.len],rfl,hoff,fun k j hk => ?_⟩
   simp only [Dat.elem,gs l _ _ k hi]
   by_cases h1 : k=i
   ·subst h1
    simp only [if_true,true_and]
    rcases off with _ | _ | _ | off <;> simp only [EventD.setF,Option.some.injEq,reduceCtorEq] at hs <;> subst hs <;>
     (rcases j with _ | _ | _ | j <;> simp [EventD.avs])
   ·simp [h1]
 ·rename_i l n
  cases hs : (l.getD i default).setF off n with
  | none=>rw [hs] at h; cases h
  | some c =>
   rw [hs] at h
   cases h
   simp only [Dat.len] at hi
   have hoff : off<4 := by
    rcases off with _ | _ | _ | _ | off <;> first | omega | (simp [MarkD.setF] at hs)
   refine ⟨by simp [Dat.len],rfl,hoff,fun k j hk => ?_⟩
   simp only [Dat.elem,gs l _ _ k hi]
   by_cases h1 : k=i
   ·subst h1
    simp only [if_true,true_and]
    unfold MarkD.setF at hs
    split at hs <;> simp only [Option.some.injEq,reduceCtorEq] at hs <;> subst hs <;>
     (rcases j with _ | _ | _ | _ | j <;> simp [MarkD.avs])
   ·simp [h1]
 ·rename_i l n
  cases h
  simp only [Dat.len] at hi
  refine ⟨by simp [Dat.len],rfl,by simp [Dat.esz],fun k j hk => ?_⟩
  simp only [Dat.elem,gs l _ _ k hi]
  by_cases h1 : k=i <;> rcases j with _ | j <;> simp [h1]
 ·rename_i l n
  cases h
  simp only [Dat.len] at hi
  refine ⟨by simp [Dat.len],rfl,by simp [Dat.esz],fun k j hk => ?_⟩
  simp only [Dat.elem,gs l _ _ k hi]
  by_cases h1 : k=i <;> rcases j with _ | j <;> simp [h1]
 ·cases h
theorem getCall_spec {xs : List AV} {c : CallD} (h : getCall xs=some c) : xs=c.avs := by
 unfold getCall at h
 split at h
 ·cases h; rfl
 ·cases h
theorem getEvent_spec {xs : List AV} {c : EventD} (h : getEvent xs=some c) : xs=c.avs := by
 unfold getEvent at h
 split at h
 ·cases h; rfl
 ·cases h
theorem getMark_spec {xs : List AV} {c : MarkD} (h : getMark xs=some c) : xs=c.avs := by
 unfold getMark at h
 split at h
 ·cases h; rfl
 ·cases h
theorem setRow_spec {d d' : Dat} {i : Nat} {xs : List AV} (h : d.setRow i xs=some d') (hi : i<d.len) :
  d'.len=d.len∧d'.esz=d.esz∧∀ k,k<d.len→d'.elem k=if k=i then xs else d.elem k := by
 have gs : ∀ {α : Type} (l : List α) (dv v : α) (k:Nat),i<l.length→(l.set i v).getD k dv=if k=i then v else l.getD k dv := by
  intro α l dv v k hl
  simp only [List.getD_eq_getElem?_getD,List.getElem?_set]
  by_cases h1 : i=k
  ·subst h1; simp [hl]
  ·simp [h1,Ne.symm h1]
 cases d <;> simp only [Dat.setRow,reduceCtorEq] at h
 ·cases hg : getCall xs with
  | none=>rw [hg] at h; cases h
  | some c =>
   rw [hg] at h; cases h
   refine ⟨by simp [Dat.len],rfl,fun k hk => ?_⟩
   simp only [Dat.elem,gs _ _ _ k hi,getCall_spec hg]
   split <;> rfl
 ·cases hg : getEvent xs with
  | none=>rw [hg] at h; cases h
  | some c =>
   rw [hg] at h; cases h
   refine ⟨by simp [Dat.len],rfl,fun k hk => ?_⟩
   simp only [Dat.elem,gs _ _ _ k hi,getEvent_spec hg]
   split <;> rfl
 ·cases hg : getMark xs with
  | none=>rw [hg] at h; cases h
  | some c =>
   rw [hg] at h; cases h
   refine ⟨by simp [Dat.len],rfl,fun k hk => ?_⟩
   simp only [Dat.elem,gs _ _ _ k hi,getMark_spec hg]
   split <;> rfl
end
end Go.Ab

namespace Go.Ab
open Go.RowKit
section
variable {F : Fr} {β : Names} {e : Nat→Option AV} {s : Heap} {u : Nat→Prop} {a : Act} {w : World} {P : Program} {o : Oper} {x : AV} {D : CD} {δ : Delta} {φ : Prop}
theorem run_storeVar {t : TypeId} {i : TypeInfo} (hi : P.info? t=some i) {g off : Nat} {cur : Array Value} {ty : TypeId} (hg : w.heap[g]? = some (.cells cur ty (0,0))) {v : Value} {vs : List Value}
  (hv : v.cells=vs.toArray) (hl : vs.length=i.size) (hfit : off+vs.length≤cur.size) (h1 : ∀ y ∈ vs,y.oneCell' = true) :
  (storeVar t ⟨g,off,none⟩ v).run P w=.ok () (w.setRow g (cur.toList.take off++vs++cur.toList.drop (off+vs.length)).toArray) := by
 have hst := run_storeCells_at P g off ty vs 0 cur w hg (by simpa using hfit) h1
 simp only [Nat.add_zero] at hst
 unfold storeVar
 simp [run_sizeOf hi,hv,hl,hst]
theorem setRow_os (w : World) (g:Nat) (cs : Array Value) : (w.setRow g cs).os=w.os∧(w.setRow g cs).tape=w.tape∧(w.setRow g cs).output=w.output∧(w.setRow g cs).heap.size=w.heap.size := by
 refine ⟨rfl,rfl,rfl,by simp [World.setRow]⟩
theorem does_store (h : Sat F β e s u a w) {t : TypeId} {y z : Operand} (ho : o.op=.store t y z) {l g cap : Nat} {c0 c : LB} (hl : s l=some c0) (hb : β l=some (.blk g cap)) {off : Nat}
  (hy : a.eval y=.pointer (some ⟨g,off,none⟩)) {cs : Array Value} {old : Array Value} (hg : w.heap[g]? = some (.cells old c.ty (0,0)))
  (hr : (storeVar t ⟨g,off,none⟩ (a.eval z)).run P w=.ok () (w.setRow g cs))
  (hc : ∀ w' : World,(∀ b,Stab F β s w b→w'.heap[b]? = w.heap[b]?)→w'.heap[g]? = some (.cells cs c.ty (0,0))→CellsOK w' (Stab F β s w) β l c.ty c.c) :
  Does P F e s u a w o .any [(l,some c)] := by
 intro K Q hK
 unfold Oper.wp
 have hex : (execOp a.eval o).run P w=.ok .skip (w.setRow g cs) := by
  unfold execOp
  simp [ho,Instr.storeAt,hy,Instr.sureAddr,hr]
 rw [hex]
 obtain ⟨h1,h2,h3,h4⟩ := setRow_os w g cs
 have hsat := h.turn (w' := w.setRow g cs) (c := c) hl hb h1 h2 h3 h4 (fun b hb'=>setRow_other w g b cs hb')
  (fun hk=>hc _ hk (setRow_heap w g old cs c.ty (0,0) hg))
 refine hK _ _ β ?_ (by simp [Rep])
 rw [upds_one,updu_one]
 have hu : u l := h.dom l _ hb
 have : (fun k=>u k ∨ k=l)=u := by
  funext k
  apply propext
  constructor
  ·rintro (hk | rfl)
   ·exact hk
   ·exact hu
  ·exact .inl
 rw [this]
 exact hsat
theorem set_as_splice {α : Type} (l : List α) (i:Nat) (v : α) (h : i<l.length) : l.take i++[v]++l.drop (i+1)=l.set i v := by
 rw [List.append_assoc,List.singleton_append,List.set_eq_take_append_cons_drop,if_pos h]
theorem flat_ix {esz k j i off : Nat} (hj : j<esz) (ho : off<esz) : k * esz+j=i * esz+off↔k=i∧j=off := by
 constructor
 ·intro h
  have h1 : (k * esz+j) / esz=k := by rw [Nat.add_comm,Nat.add_mul_div_right _ _ (by omega),Nat.div_eq_of_lt hj,Nat.zero_add]
  have h2 : (i * esz+off) / esz=i := by rw [Nat.add_comm,Nat.add_mul_div_right _ _ (by omega),Nat.div_eq_of_lt ho,Nat.zero_add]
  have hk : k=i := by rw [← h1,h,h2]
  subst hk
  exact ⟨rfl,by omega⟩
 ·rintro ⟨rfl,rfl⟩; rfl
theorem elem_lt {d : Dat} {k j : Nat} {x : AV} (h : (d.elem k)[j]? = some x) : j<d.esz := by
 have := (List.getElem?_eq_some_iff.1 h).1
 rwa [Dat.elem_length] at this
theorem run_store' (hD : COK P D) (h : Sat F β e s u a w) {t : TypeId} {y z : Operand} (ho : o.op=.store t y z) {p q : AV} (hp : opv e y=some p) (hq : opv e z=some q)
  (hf : storeF D s t p q=some (x,δ,φ)) (hφ : φ) : Does P F e s u a w o x δ := by
 have rp := h.opv hp
 have rq := h.opv hq
 unfold storeF at hf
 split at hf
 ·rename_i zs l off ys hk hpc hqc
  have ht := hD.ty _ _ hk
  obtain ⟨⟨i,hi,hsz,_⟩,_⟩ := ht
  split at hf
  ·rename_i ty xs hsl
   split at hf
   ·rename_i hlen
    cases hf
    obtain ⟨rfl,hl1,hl2,hone⟩ := hlen
    have rp' := rp.core hφ.1
    have rq' := rq.core hφ.2
    rw [hpc] at rp'
    rw [hqc] at rq'
    simp only [Rep] at rp' rq'
    obtain ⟨g,cap,b1,b2⟩ := rp'
    obtain ⟨vs,e1,e2⟩ := rq'
    have hloc := h.loc l _ hsl
    simp only [LocOK,CellsOK] at hloc
    obtain ⟨g',cap',arr,c1,c2,c3⟩ := hloc
    rw [b1] at c1
    simp only [Option.some.injEq,Bl.blk.injEq] at c1
    obtain ⟨rfl,rfl⟩ := c1
    have hlv := e2.length_eq
    have hla := c3.length_eq
    have hr := run_storeVar (P := P) (t := t) hi (g := g) (off := 0) c2 (v := a.eval z) (vs := vs.toList) (by rw [e1]; simp [Value.cells]) (by rw [hsz]; omega)
     (by simp at hla; simp only [Array.length_toList] at *; omega) (e2.one hone)
    have hd : arr.toList.drop (0+vs.toList.length)=[] := List.drop_eq_nil_of_le (by simp only [Array.length_toList] at *; omega)
    rw [hd] at hr
    simp only [List.take_zero,List.nil_append,List.append_nil,Array.toArray_toList] at hr
    refine does_store h ho (c := ⟨ty,.fix ys⟩) hsl b1 b2 c2 hr (fun w' hkeep hw' => ?_)
    simp only [CellsOK]
    exact ⟨g,cap,vs,b1,hw',RepL.mono (fun _ hb=>hb) hkeep ys _ (fun _ _ _ hp=>hp) e2⟩
   ·cases hf
  ·cases hf
 ·rename_i zs l esz ix off ys hk hpc hqc
  have ht := hD.ty _ _ hk
  obtain ⟨⟨i,hi,hsz,_⟩,_⟩ := ht
  split at hf
  ·rename_i ty d hsl
   split at hf
   ·rename_i hlen
    obtain ⟨rfl,hl0,hl1,hl2,hone⟩ := hlen
    cases hset : d.setRow ix ys with
    | none=>rw [hset] at hf; cases hf
    | some d' =>
     rw [hset] at hf
     simp only [Option.map_some,Option.some.injEq,Prod.mk.injEq] at hf
     obtain ⟨rfl,rfl,rfl⟩ := hf
     obtain ⟨f1,f2,f3⟩ := hφ
     obtain ⟨s1,s2,s3⟩ := setRow_spec hset f3
     have rp' := rp.core f1
     have rq' := rq.core f2
     rw [hpc] at rp'
     rw [hqc] at rq'
     simp only [Rep] at rp' rq'
     obtain ⟨g,cap,b1,b2⟩ := rp'
     obtain ⟨vs,e1,e2⟩ := rq'
     have hloc := h.loc l _ hsl
     simp only [LocOK,CellsOK] at hloc
     rcases hloc with ⟨c1,_⟩ | ⟨g',cap',cur,c1,c2,c3,c4,c5,c6⟩
     ·rw [b1] at c1; cases c1
     ·rw [b1] at c1
      simp only [Option.some.injEq,Bl.blk.injEq] at c1
      obtain ⟨rfl,rfl⟩ := c1
      have hlv := e2.length_eq
      simp only [Array.length_toList] at hlv
      have hfit : ix * esz+0+vs.toList.length≤cur.size := by
       simp only [Array.length_toList]
       rw [c5,hl0,← hlv,hl2]
       have : (ix+1) * esz≤cap * esz := Nat.mul_le_mul_right _ (by omega)
       rw [Nat.add_mul] at this
       omega
      have hr := run_storeVar (P := P) (t := t) hi (g := g) (off := ix * esz+0) c2 (v := a.eval z) (vs := vs.toList) (by rw [e1]; simp [Value.cells]) (by simp only [Array.length_toList]; rw [hsz]; omega) hfit (e2.one hone)
      refine does_store h ho (c := ⟨ty,.row d'⟩) hsl b1 b2 c2 hr (fun w' hkeep hw' => ?_)
      simp only [CellsOK]
      refine .inr ⟨g,cap,_,b1,hw',by omega,c4,?_,?_⟩
      ·simp only [Array.length_toList] at hfit
       simp only [List.size_toArray,List.length_append,List.length_take,List.length_drop,Array.length_toList,s2]
       omega
      ·intro k j y hk' hj
       rw [s1] at hk'
       have hjl := elem_lt hj
       rw [s2] at hjl
       rw [s3 k hk'] at hj
       simp only [Array.length_toList] at hfit
       by_cases hki : k=ix
       ·subst hki
        rw [if_pos rfl] at hj
        obtain ⟨v,hv,hr'⟩ := e2.get hj
        refine ⟨v,?_,Rep.mono (fun _ hb=>hb) hkeep y v (fun _ _ _ hp=>hp) hr'⟩
        rw [s2,hl0]
        simp only [Nat.add_zero,List.getElem?_toArray]
        rw [List.append_assoc,List.getElem?_append_right (by simp; omega),List.getElem?_append_left (by simp [List.length_take]; omega)]
        rw [← hv]
        congr 1
        simp only [List.length_take,Array.length_toList]
        omega
       ·rw [if_neg hki] at hj
        obtain ⟨v,hv,hr'⟩ := c6 k j y hk' hj
        refine ⟨v,?_,Rep.mono (fun _ hb=>hb) hkeep y v (fun _ _ _ hp=>hp) hr'⟩
        rw [s2,← hv]
        simp only [Nat.add_zero,List.getElem?_toArray]
        rw [hl0] at hjl ⊢
        rcases Nat.lt_or_gt_of_ne hki with hlt | hgt
        ·have : (k+1) * esz≤ix * esz := Nat.mul_le_mul_right _ hlt
         rw [Nat.add_mul] at this
         rw [List.append_assoc,List.getElem?_append_left (by simp only [List.length_take,Array.length_toList]; omega),List.getElem?_take,if_pos (by omega)]
         simp
        ·have : (ix+1) * esz≤k * esz := Nat.mul_le_mul_right _ hgt
         rw [Nat.add_mul] at this
         rw [List.getElem?_append_right (by simp only [List.length_append,List.length_take,Array.length_toList]; omega),List.getElem?_drop]
         simp only [List.length_append,List.length_take,Array.length_toList,Array.getElem?_toList]
         congr 1
         omega
   ·cases hf
  ·cases hf
 ·rename_i zz l off hk hpc
  have ht := hD.ty _ _ hk
  obtain ⟨⟨i,hi,hsz,_⟩,_⟩ := ht
  split at hf
  ·rename_i ty xs hsl
   split at hf
   ·rename_i hlen
    cases hf
    obtain ⟨hl1,hone⟩ := hlen
    have rp' := rp.core hφ.1
    have rq' := rq.core hφ.2
    rw [hpc] at rp'
    simp only [Rep] at rp'
    obtain ⟨g,cap,b1,b2⟩ := rp'
    have hloc := h.loc l _ hsl
    simp only [LocOK,CellsOK] at hloc
    obtain ⟨g',cap',arr,c1,c2,c3⟩ := hloc
    rw [b1] at c1
    simp only [Option.some.injEq,Bl.blk.injEq] at c1
    obtain ⟨rfl,rfl⟩ := c1
    have hla := c3.length_eq
    have ho1 := rq'.one hone
    have hr := run_storeVar (P := P) (t := t) hi (g := g) (off := off) c2 (v := a.eval z) (vs := [a.eval z]) (by rw [cells_one ho1]) (by rw [hsz]; rfl)
     (by simp only [Array.length_toList,List.length_singleton] at *; omega) (by simpa using ho1)
    simp only [List.length_singleton] at hr
    rw [set_as_splice _ _ _ (by omega)] at hr
    refine does_store h ho (c := ⟨ty,.fix (xs.set off q.core)⟩) hsl b1 b2 c2 hr (fun w' hkeep hw' => ?_)
    simp only [CellsOK]
    refine ⟨g,cap,_,b1,hw',?_⟩
    exact RepL.mono (fun _ hb=>hb) hkeep _ _ (fun _ _ _ hp=>hp) (c3.set rq')
   ·cases hf
  ·cases hf
 ·rename_i zz l esz ix off hk hpc
  have ht := hD.ty _ _ hk
  obtain ⟨⟨i,hi,hsz,_⟩,_⟩ := ht
  split at hf
  ·rename_i ty d hsl
   split at hf
   ·rename_i hlen
    obtain ⟨hl0,hone⟩ := hlen
    cases hset : d.setF ix off q.core with
    | none=>rw [hset] at hf; cases hf
    | some d' =>
     rw [hset] at hf
     simp only [Option.map_some,Option.some.injEq,Prod.mk.injEq] at hf
     obtain ⟨rfl,rfl,rfl⟩ := hf
     obtain ⟨f1,f2,f3⟩ := hφ
     obtain ⟨s1,s2,s3,s4⟩ := setF_spec hset f3
     have rp' := rp.core f1
     have rq' := rq.core f2
     rw [hpc] at rp'
     simp only [Rep] at rp'
     obtain ⟨g,cap,b1,b2⟩ := rp'
     have hloc := h.loc l _ hsl
     simp only [LocOK,CellsOK] at hloc
     rcases hloc with ⟨c1,_⟩ | ⟨g',cap',cur,c1,c2,c3,c4,c5,c6⟩
     ·rw [b1] at c1; cases c1
     ·rw [b1] at c1
      simp only [Option.some.injEq,Bl.blk.injEq] at c1
      obtain ⟨rfl,rfl⟩ := c1
      have ho1 := rq'.one hone
      have hfit : ix * esz+off+1≤cur.size := by
       rw [c5,hl0]
       have : (ix+1) * esz≤cap * esz := Nat.mul_le_mul_right _ (by omega)
       rw [Nat.add_mul] at this
       omega
      have hr := run_storeVar (P := P) (t := t) hi (g := g) (off := ix * esz+off) c2 (v := a.eval z) (vs := [a.eval z]) (by rw [cells_one ho1]) (by rw [hsz]; rfl) hfit (by simpa using ho1)
      simp only [List.length_singleton] at hr
      rw [set_as_splice _ _ _ (by simp only [Array.length_toList]; omega)] at hr
      refine does_store h ho (c := ⟨ty,.row d'⟩) hsl b1 b2 c2 hr (fun w' hkeep hw' => ?_)
      simp only [CellsOK]
      refine .inr ⟨g,cap,_,b1,hw',by omega,c4,by simp [s2,c5],?_⟩
      intro k j y hk' hj
      rw [s1] at hk'
      have hjl := elem_lt hj
      rw [s2] at hjl
      rw [s4 k j hk'] at hj
      rw [s2,hl0]
      rw [hl0] at hjl s3
      simp only [List.getElem?_toArray]
      by_cases hki : k=ix∧j=off
      ·rw [if_pos hki] at hj
       cases hj
       refine ⟨a.eval z,?_,Rep.mono (fun _ hb=>hb) hkeep _ _ (fun _ _ _ hp=>hp) rq'⟩
       rw [(flat_ix hjl s3).2 hki,List.getElem?_set_self (by simp only [Array.length_toList]; omega)]
      ·rw [if_neg hki] at hj
       obtain ⟨v,hv,hr'⟩ := c6 k j y hk' hj
       refine ⟨v,?_,Rep.mono (fun _ hb=>hb) hkeep y v (fun _ _ _ hp=>hp) hr'⟩
       rw [List.getElem?_set_ne (fun he=>hki ((flat_ix hjl s3).1 he.symm)),← hv,hl0]
       simp
   ·cases hf
  ·cases hf
 ·cases hf
end
end Go.Ab

namespace Go.Ab
open Go.RowKit
def rowsM {α : Type} (f : List AV→Option α) : List (List AV)→Option (List α)
 | []=>some []
 | r :: rs =>
  match f r,rowsM f rs with
  | some x,some xs=>some (x :: xs)
  | _,_=>none
def getByte : List AV→Option UInt8
 | _=>none
def DatK.mk : DatK→List (List AV)→Option Dat
 | .ints,rs=>(rowsM getInt rs).map .ints
 | .calls,rs=>(rowsM getCall rs).map .calls
 | .events,rs=>(rowsM getEvent rs).map .events
 | .marks,rs=>(rowsM getMark rs).map .marks
 | .strs,rs=>(rowsM getStr rs).map .strs
 | .bytes,rs=>(rowsM getByte rs).map .bytes
 | .intss,rs=>(rowsM getInts rs).map .intss
def DatK.zeros : DatK→Nat→Dat
 | .ints,n => .ints (List.replicate n 0)
 | .calls,n => .calls (List.replicate n ⟨0,0,0,0,0,0,0⟩)
 | .events,n => .events (List.replicate n ⟨0,0,0⟩)
 | .marks,n => .marks (List.replicate n ⟨0,0,0,false⟩)
 | .strs,n => .strs (List.replicate n ByteArray.empty)
 | .bytes,n => .bytes (List.replicate n 0)
 | .intss,n => .intss (List.replicate n [])
def Dat.app : Dat→Dat→Option Dat
 | .ints a,.ints b=>some (.ints (a++b))
 | .calls a,.calls b=>some (.calls (a++b))
 | .events a,.events b=>some (.events (a++b))
 | .marks a,.marks b=>some (.marks (a++b))
 | .strs a,.strs b=>some (.strs (a++b))
 | .bytes a,.bytes b=>some (.bytes (a++b))
 | .intss a,.intss b=>some (.intss (a++b))
 | _,_=>none
def condL : List AV→Prop
 | []=>True
 | x :: xs=>x.cond∧condL xs
def partsA (e : Nat→Option AV) : Nat→List (Nat × Operand)→Option (List AV)
 | _,[]=>some []
 | k,(i,y) :: r =>
  if i=k then
   match opv e y,partsA e (k+1) r with
   | some x,some xs=>some (x :: xs)
   | _,_=>none
  else none
def rowRes (fl:Bool) (nm:Nat) (t : TypeId) (d:Dat) (δ : Delta) (φ:Prop) : Res :=
 if fl then some (.own nm d.len,δ++[(nm,some ⟨t,.row d⟩)],φ) else some (.sl d,δ++[(nm,none)],φ)
def buildSliceF (D : CD) (fl:Bool) (nm:Nat) (t : TypeId) (n:Nat) (xs : List AV) : Res :=
 match D.sl t with
 | some (e,kd) =>
  if xs.length=n∧n≤1000 then
   match kd.mk (xs.map fun x=>x.core.cellsL) with
   | some d=>rowRes fl nm e d [] (condL xs)
   | none=>none
  else none
 | none=>none
def makeSliceF (D : CD) (fl:Bool) (nm:Nat) (t : TypeId) (n c : AV) : Res :=
 match D.sl t,n.core,c.core with
 | some (e,kd),.v (.int _ k),.v (.int _ k')=>rowRes fl nm e (kd.zeros k.toNat) [] (n.cond∧c.cond∧k' = k∧0≤k∧k * kd.bytes_≤281474976710656)
 | _,_,_=>none
section
variable {F : Fr} {β : Names} {e : Nat→Option AV} {s : Heap} {u : Nat→Prop} {a : Act} {w : World} {P : Program} {o : Oper} {x : AV} {D : CD} {δ : Delta} {φ : Prop}
theorem rowsM_len {α : Type} {f : List AV→Option α} : ∀ {rs : List (List AV)} {l : List α},rowsM f rs=some l→l.length=rs.length
 | [],l,h=>by simp [rowsM] at h; subst h; rfl
 | r :: rs,l,h=>by
  simp only [rowsM] at h
  split at h
  ·rename_i x xs h1 h2
   cases h
   simp [rowsM_len h2]
  ·cases h
theorem rowsM_get {α : Type} {f : List AV→Option α} (dv : α) : ∀ {rs : List (List AV)} {l : List α},rowsM f rs=some l→∀ {k : Nat} {r : List AV},rs[k]? = some r→f r=some (l.getD k dv)
 | [],l,h,k,r,hk=>by simp at hk
 | r0 :: rs,l,h,k,r,hk=>by
  simp only [rowsM] at h
  split at h
  ·rename_i x xs h1 h2
   cases h
   cases k with
   | zero=>simp at hk; subst hk; simpa using h1
   | succ k=>simp at hk; simpa using rowsM_get dv h2 hk
  ·cases h
theorem getInt_spec {r : List AV} {n : Int} (h : getInt r=some n) : r=[.v (.int .i64 n)] := by
 unfold getInt at h
 split at h
 ·cases h; rfl
 ·cases h
theorem getStr_spec {r : List AV} {n : ByteArray} (h : getStr r=some n) : r=[.v (.string n)] := by
 unfold getStr at h
 split at h
 ·cases h; rfl
 ·cases h
theorem mk_spec {kd : DatK} {rs : List (List AV)} {d : Dat} (h : kd.mk rs=some d) : d.kind=kd∧d.len=rs.length ∧
  ∀ (T : Nat→Prop) (k:Nat) (r : List AV) (ys : List Value),rs[k]? = some r→RepL w T β r ys→RepL w T β (d.elem k) ys := by
 cases kd <;> simp only [DatK.mk,Option.map_eq_some_iff] at h <;> obtain ⟨l,hl,rfl⟩ := h <;> refine ⟨rfl,rowsM_len hl,fun T k r ys hk hr => ?_⟩
 ·rw [getInt_spec (rowsM_get 0 hl hk)] at hr; exact hr
 ·have := getCall_spec (rowsM_get default hl hk); rw [this] at hr; exact hr
 ·have := getEvent_spec (rowsM_get default hl hk); rw [this] at hr; exact hr
 ·have := getMark_spec (rowsM_get default hl hk); rw [this] at hr; exact hr
 ·rw [getStr_spec (rowsM_get default hl hk)] at hr; exact hr
 ·have := rowsM_get default hl hk; simp [getByte] at this
 ·have := rowsM_get [] hl hk
  unfold getInts at this
  split at this
  ·simp only [Option.some.injEq] at this
   simp only [Dat.elem,← this]
   exact hr
  ·simp only [Option.some.injEq] at this
   simp only [Dat.elem,← this]
   match ys,hr with
   | [y],hr =>
    simp only [RepL,Rep,and_true] at hr ⊢
    subst hr
    exact sl_of_nil rfl
   | [],hr=>simp [RepL] at hr
   | _ :: _ :: _,hr=>simp [RepL] at hr
  ·cases this
theorem upds_append (s : Heap) (δ : Delta) (l:Nat) (c : Option LB) : upds s (δ++[(l,c)])=updS (upds s δ) l c := by simp [upds,List.foldl_append]
theorem updu_append (u : Nat→Prop) (δ : Delta) (l:Nat) (c : Option LB) : updu u (δ++[(l,c)])=fun k=>updu u δ k ∨ k=l := by
 funext k
 simp [updu,or_assoc]
theorem does_row {nm : Nat} {t : TypeId} {d : Dat} {δ' : Delta} {ψ : Prop} (fl:Bool) (h : Does P F e s u a w o (.own nm d.len) (δ++[(nm,some ⟨t,.row d⟩)]))
  (hf : rowRes fl nm t d δ φ=some (x,δ',ψ)) : Does P F e s u a w o x δ' := by
 unfold rowRes at hf
 cases fl with
 | true=>simp only [if_true,Option.some.injEq,Prod.mk.injEq] at hf; obtain ⟨rfl,rfl,rfl⟩ := hf; exact h
 | false =>
  simp only [Bool.false_eq_true,if_false,Option.some.injEq,Prod.mk.injEq] at hf
  obtain ⟨rfl,rfl,rfl⟩ := hf
  intro K Q hK
  refine h K Q (fun y w' β' hs hr => ?_)
  have hk := hs.kill nm
  simp only [Rep] at hr
  have hl : upds s (δ++[(nm,some ⟨t,.row d⟩)]) nm=some ⟨t,.row d⟩ := by rw [upds_append]; simp [updS]
  have hfz := hs.freeze hl hr
  have e1 : updS (upds s (δ++[(nm,some ⟨t,.row d⟩)])) nm none=upds s (δ++[(nm,none)]) := by
   rw [upds_append,upds_append]
   funext k
   unfold updS
   split <;> rfl
  have e2 : updu u (δ++[(nm,some ⟨t,.row d⟩)])=updu u (δ++[(nm,none)]) := by rw [updu_append,updu_append]
  rw [e1] at hk hfz
  rw [e2] at hk
  exact hK y w' β' hk (by simp only [Rep]; exact hfz)
theorem does_newrow (h : Sat F β e s u a w) {nm : Nat} (hnm : ¬ u nm) {t : TypeId} {d : Dat} {cur : Array Value} {cap : Nat}
  (hr : (execOp a.eval o).run P w=.ok (.value (.slice (some ⟨w.heap.size,0,none⟩) d.len cap)) (w.alloc (.cells cur t)))
  (h1 : d.len≤cap) (h2 : cap≤maxLen) (h3 : cur.size=cap * d.esz) (hc : RowRep w (Stab F β s w) β d cur) :
  Does P F e s u a w o (.own nm d.len) ([]++[(nm,some ⟨t,.row d⟩)]) := by
 intro K Q hK
 unfold Oper.wp
 rw [hr]
 have hsat := h.alloc (w' := w.alloc (.cells cur t)) hnm (c := ⟨t,.row d⟩) (arr := cur) (cap := cap) rfl rfl rfl rfl (fun T β' hT hβ hb=>by
  simp only [CellsOK]
  refine .inr ⟨w.heap.size,cap,cur,hb,heap_new _ _,h1,h2,h3,hc.mono hT (fun b hb => ?_)⟩
  exact Below.heap_alloc w _ b (Stab.lt h hb))
 refine hK _ _ (updB β nm (.blk w.heap.size cap)) ?_ ?_
 ·rw [List.nil_append,upds_one,updu_one]; exact hsat
 ·simp only [Rep]
  exact .inr ⟨w.heap.size,cap,by simp [updB],h1,rfl⟩
theorem partsA_spec (h : Sat F β e s u a w) : ∀ {k : Nat} {ps : List (Nat × Operand)} {xs : List AV},partsA e k ps=some xs→condL xs →
  ∃ vs : List Value,vs.length=xs.length∧ps.map (fun p=>(p.1,a.eval p.2))=(vs.zipIdx k).map (fun p=>(p.2,p.1))∧RepL w (Stab F β s w) β (xs.map AV.core) vs
 | k,[],xs,hp,_=>by
  simp only [partsA,Option.some.injEq] at hp
  subst hp
  exact ⟨[],rfl,rfl,by simp [RepL]⟩
 | k,(i,y) :: r,xs,hp,hc=>by
  simp only [partsA] at hp
  split at hp
  ·rename_i hik
   subst hik
   split at hp
   ·rename_i x xs' h1 h2
    cases hp
    simp only [condL] at hc
    obtain ⟨vs,e1,e2,e3⟩ := partsA_spec h h2 hc.2
    refine ⟨a.eval y :: vs,by simp [e1],?_,?_⟩
    ·simp only [List.map_cons,List.zipIdx_cons,e2]
    ·simp only [List.map_cons,RepL]
     exact ⟨(h.opv h1).core hc.1,e3⟩
   ·cases hp
  ·cases hp
theorem cellsL_rep {T : Nat→Prop} {x : AV} {y : Value} (h : Rep w T β x y) (hx : (∃ xs,x=.agg xs) ∨ x.one=true) : RepL w T β x.cellsL y.cells.toList := by
 rcases hx with ⟨xs,rfl⟩ | hx
 ·simp only [Rep] at h
  obtain ⟨ys,rfl,h2⟩ := h
  simpa [AV.cellsL,Value.cells] using h2
 ·have hy := h.one hx
  rw [cells_one hy]
  cases x <;> simp only [AV.one] at hx <;> try cases hx
  all_goals (simp only [AV.cellsL,RepL,and_true]; exact h)
theorem mk_one {kd : DatK} : ∀ {xs : List AV} {d : Dat},kd.mk (xs.map fun x=>x.core.cellsL)=some d→∀ x ∈ xs,(∃ ys,x.core=.agg ys) ∨ x.core.one=true := by
 have key : ∀ {α : Type} (f : List AV→Option α),(∀ r a,f r=some a→r.length≠1 ∨ ∃ y,r=[y]∧y.one=true)→∀ (xs : List AV) (l : List α),
   rowsM f (xs.map fun x=>x.core.cellsL)=some l→∀ x ∈ xs,(∃ ys,x.core=.agg ys) ∨ x.core.one=true := by
  intro α f hfr xs
  induction xs with
  | nil=>intro l _ x hx; cases hx
  | cons x0 xs ih =>
   intro l hl x hx
   simp only [List.map_cons,rowsM] at hl
   split at hl
   ·rename_i a as h1 h2
    rcases List.mem_cons.1 hx with rfl | hx
    ·cases hc : x.core with
     | agg ys=>exact .inl ⟨ys,rfl⟩
     | _ =>
      right
      rw [hc] at h1
      rcases hfr _ _ h1 with h3 | ⟨y,h3,h4⟩
      ·exact absurd rfl h3
      ·simp only [AV.cellsL,List.cons.injEq,and_true] at h3
       rw [h3]; exact h4
    ·exact ih as h2 x hx
   ·cases hl
 intro xs d h
 cases kd <;> simp only [DatK.mk,Option.map_eq_some_iff] at h <;> obtain ⟨l,hl,rfl⟩ := h
 ·exact key getInt (fun r n hr => .inr ⟨_,getInt_spec hr,rfl⟩) xs l hl
 ·exact key getCall (fun r n hr => .inl (by rw [getCall_spec hr]; simp [CallD.avs])) xs l hl
 ·exact key getEvent (fun r n hr => .inl (by rw [getEvent_spec hr]; simp [EventD.avs])) xs l hl
 ·exact key getMark (fun r n hr => .inl (by rw [getMark_spec hr]; simp [MarkD.avs])) xs l hl
 ·exact key getStr (fun r n hr => .inr ⟨_,getStr_spec hr,rfl⟩) xs l hl
 ·exact key getByte (fun r n hr=>by simp [getByte] at hr) xs l hl
 ·refine key getInts (fun r n hr => .inr ?_) xs l hl
  unfold getInts at hr
  split at hr
  ·exact ⟨_,rfl,rfl⟩
  ·exact ⟨_,rfl,rfl⟩
  ·cases hr
theorem run_buildSlice' (hD : COK P D) (h : Sat F β e s u a w) {fl : Bool} {nm : Nat} (hnm : ¬ u nm) {t : TypeId} {n : Nat} {ps : Array (Nat × Operand)} (ho : o.op=.buildSlice t n ps) {xs : List AV}
  (hp : partsA e 0 ps.toList=some xs) (hf : buildSliceF D fl nm t n xs=some (x,δ,φ)) (hφ : φ) : Does P F e s u a w o x δ := by
 unfold buildSliceF at hf
 split at hf
 ·rename_i et kd hsl
  split at hf
  ·rename_i hlen
   split at hf
   ·rename_i d hmk
    have hφ' : condL xs := by
     unfold rowRes at hf
     split at hf <;> (simp only [Option.some.injEq,Prod.mk.injEq] at hf; rw [hf.2.2]; exact hφ)
    obtain ⟨hu,ii,hi1,hi2,hi3,hi4⟩ := hD.sl _ _ _ hsl
    obtain ⟨vs,e1,e2,e3⟩ := partsA_spec h hp hφ'
    obtain ⟨m1,m2,m3⟩ := mk_spec (w := w) (β := β) hmk
    have hone := mk_one hmk
    have hel : d.esz=kd.esz := by rw [Dat.esz_kind,m1]
    have hkpos : 0<kd.esz := by rw [← hel]; exact d.esz_pos
    simp only [List.length_map] at m2
    -- each part's cells
    have hcell : ∀ (k:Nat) (v:Value),vs[k]? = some v→∃ xk,xs[k]? = some xk∧RepL w (Stab F β s w) β xk.core.cellsL v.cells.toList := by
     intro k v hk
     have hlt : k<vs.length := (List.getElem?_eq_some_iff.1 hk).1
     have hxk : xs[k]? = some (xs[k]'(by omega)) := List.getElem?_eq_getElem (by omega)
     refine ⟨_,hxk,?_⟩
     obtain ⟨y,hy,hr⟩ := e3.get (j := k) (x := (xs[k]'(by omega)).core) (by simp [List.getElem?_map,hxk])
     rw [hk] at hy
     cases hy
     exact cellsL_rep hr (hone _ (List.mem_of_getElem? hxk))
    have hrep : ∀ (k:Nat) (v:Value),vs[k]? = some v→RepL w (Stab F β s w) β (d.elem k) v.cells.toList := by
     intro k v hk
     obtain ⟨xk,hxk,hr⟩ := hcell k v hk
     exact m3 _ k xk.core.cellsL _ (by simp [List.getElem?_map,hxk]) hr
    have hvsz : ∀ v ∈ vs,v.cells.size=kd.esz := by
     intro v hv
     obtain ⟨k,hk⟩ := List.getElem?_of_mem hv
     have := (hrep k v hk).length_eq
     rw [Dat.elem_length,hel] at this
     simpa using this.symm
    by_cases h0 : n=0
    ·subst h0
     have hxs : xs=[] := List.eq_nil_of_length_eq_zero hlen.1
     subst hxs
     have hps : ps.toList.map (fun p=>(p.1,a.eval p.2))=[] := by rw [e2]; have : vs=[] := List.eq_nil_of_length_eq_zero (by simpa using e1); rw [this]; rfl
     have hps' : ps = #[] := by
      have : ps.toList=[] := by simpa using hps
      exact Array.toList_eq_nil_iff.1 this
     have hd0 : d.len=0 := by simpa using m2
     refine does_row fl (nm := nm) (t := et) (d := d) (δ := []) (does_newrow h hnm (cur := #[]) (cap := 0) ?_ (by omega) (by unfold maxLen; omega) (by simp) (by intro k j y hk; omega)) hf
     unfold execOp
     simp [ho,hps',Instr.buildSlice,run_underlying hu,run_sizeOf hi1,Instr.fill,newRow,hd0,Array.range_zero']
    ·have hz : (DatK.zero kd).cells.size=kd.esz := by cases kd <;> rfl
     obtain ⟨r,hr,hrs,hrk⟩ := Great.fill_dense (s := kd.esz) hkpos vs 0 ((Array.range (n * kd.esz)).map ((DatK.zero kd).cells[· % (DatK.zero kd).cells.size]!)) hvsz (by simp; rw [e1,hlen.1]; exact Nat.le_refl _)
     refine does_row fl (nm := nm) (t := et) (d := d) (δ := []) (does_newrow h hnm (cur := r) (cap := n) ?_ (by omega) (by unfold maxLen; omega) (by rw [hrs,hel]; simp) ?_) hf
     ·have hbs := run_buildSlice (P := P) w t et n (ps.map fun (i,x)=>(i,a.eval x)) r ii (DatK.zero kd) hu hi1 hi2 (by rw [hi3]; have := hlen.2; have : n * kd.esz≤1000 * 7 := Nat.mul_le_mul this (by cases kd <;> decide); omega)
       (by rw [hi3]; have := Nat.mul_pos (Nat.pos_of_ne_zero h0) hkpos; omega) (by
        rw [hi3]
        have : (ps.map fun (i,x)=>(i,a.eval x)).toList=(vs.zipIdx 0).map (fun p=>(p.2,p.1)) := by
         rw [Array.toList_map,← e2]
        rw [this]
        exact hr)
      unfold execOp
      simp only [ho,Sem.run_bind,hbs,Result.andThen_ok,Sem.run_pure,m2,hlen.1]
     ·intro k j y hk hj
      have hkl : k<vs.length := by omega
      have hvk : vs[k]? = some vs[k] := List.getElem?_eq_getElem hkl
      obtain ⟨v',hv',hr'⟩ := (hrep k _ hvk).get hj
      refine ⟨v',?_,hr'⟩
      have hjl := elem_lt hj
      rw [hel] at hjl ⊢
      rw [hrk]
      have hlt : k * kd.esz+j<(0+vs.length) * kd.esz := by
       have : (k+1) * kd.esz≤vs.length * kd.esz := Nat.mul_le_mul_right _ hkl
       rw [Nat.add_mul] at this
       rw [Nat.zero_add]
       omega
      rw [if_pos ⟨by omega,hlt⟩]
      have hd1 : (k * kd.esz+j) / kd.esz=k := by rw [Nat.add_comm,Nat.add_mul_div_right _ _ hkpos,Nat.div_eq_of_lt hjl,Nat.zero_add]
      have hd2 : (k * kd.esz+j) % kd.esz=j := by rw [Nat.add_comm,Nat.add_mul_mod_self_right,Nat.mod_eq_of_lt hjl]
      rw [hd1,hd2,Nat.sub_zero,hvk]
      simpa using hv'
   ·cases hf
  ·cases hf
 ·cases hf
end
end Go.Ab

namespace Go.Ab
open Go.RowKit
section
variable {F : Fr} {β : Names} {e : Nat→Option AV} {s : Heap} {u : Nat→Prop} {a : Act} {w : World} {P : Program} {o : Oper} {x : AV} {D : CD} {δ : Delta} {φ : Prop}
theorem zeros_len (kd : DatK) (n:Nat) : (kd.zeros n).len=n := by cases kd <;> simp [DatK.zeros,Dat.len]
theorem zeros_kind (kd : DatK) (n:Nat) : (kd.zeros n).kind=kd := by cases kd <;> rfl
theorem zeros_elem {T : Nat→Prop} (kd : DatK) (n k:Nat) (hk : k<n) : RepL w T β ((kd.zeros n).elem k) (DatK.zero kd).cells.toList := by
 have gr : ∀ {α : Type} (v dv : α),(List.replicate n v).getD k dv=v := by
  intro α v dv
  simp [List.getD_eq_getElem?_getD,hk]
 cases kd <;> simp only [DatK.zeros,Dat.elem,gr,DatK.zero,Value.cells,CallD.avs,EventD.avs,MarkD.avs,RepL,Rep,and_true]
 ·rfl
 ·exact sl_of_nil rfl
theorem run_makeSlice' (hD : COK P D) (h : Sat F β e s u a w) {fl : Bool} {nm : Nat} (hnm : ¬ u nm) {t : TypeId} {y z : Operand} (ho : o.op=.makeSlice t y z) {p q : AV}
  (hp : opv e y=some p) (hq : opv e z=some q) (hf : makeSliceF D fl nm t p q=some (x,δ,φ)) (hφ : φ) : Does P F e s u a w o x δ := by
 have rp := h.opv hp
 have rq := h.opv hq
 unfold makeSliceF at hf
 split at hf
 ·rename_i et kd k1 k k2 k' hsl hpc hqc
  have hφ' : p.cond∧q.cond∧k' = k∧0≤k∧k * kd.bytes_≤281474976710656 := by
   unfold rowRes at hf
   split at hf <;> (simp only [Option.some.injEq,Prod.mk.injEq] at hf; rw [hf.2.2]; exact hφ)
  obtain ⟨f1,f2,rfl,f4,f5⟩ := hφ'
  have rp' := rp.core f1
  have rq' := rq.core f2
  rw [hpc] at rp'
  rw [hqc] at rq'
  simp only [Rep] at rp' rq'
  obtain ⟨hu,ii,hi1,hi2,hi3,hi4⟩ := hD.sl _ _ _ hsl
  have hbk : 1≤(kd.bytes_:Int) := by cases kd <;> decide
  have hk63 : k'≤9223372036854775807 := by
   have : k' * 1≤k' * kd.bytes_ := Int.mul_le_mul_of_nonneg_left hbk f4
   omega
  have hr := run_make (P := P) w t et ii (DatK.zero kd) hu hi1 hi2 k1 k2 k' k' f4 (Int.le_refl _) (by rw [hi4,Int.mul_comm]; exact f5) hk63
  have hel : (kd.zeros k'.toNat).esz=kd.esz := by rw [Dat.esz_kind,zeros_kind]
  refine does_row fl (nm := nm) (t := et) (d := kd.zeros k'.toNat) (δ := []) (does_newrow h hnm (cur := madeCells (DatK.zero kd).cells (k'.toNat * ii.size)) (cap := k'.toNat) ?_ (by rw [zeros_len]; exact Nat.le_refl _) (by unfold maxLen; omega) (by rw [size_madeCells,hi3,hel]) ?_) hf
  ·unfold execOp
   simp only [ho,rp',rq',Sem.run_bind,hr,Result.andThen_ok,Sem.run_pure,zeros_len]
  ·intro i j y hi hj
   rw [zeros_len] at hi
   have hjl := elem_lt hj
   rw [hel] at hjl ⊢
   obtain ⟨v,hv,hr'⟩ := (zeros_elem (w := w) (T := Stab F β s w) (β := β) kd _ _ hi).get hj
   refine ⟨v,?_,hr'⟩
   have hz : (DatK.zero kd).cells.size=kd.esz := by cases kd <;> rfl
   have hlt : i * kd.esz+j<k'.toNat * kd.esz := by
    have : (i+1) * kd.esz≤k'.toNat * kd.esz := Nat.mul_le_mul_right _ hi
    rw [Nat.add_mul] at this
    omega
   unfold madeCells
   rw [hi3,hz]
   rw [Array.getElem?_map,Array.getElem?_range,if_pos hlt]
   simp only [Option.map_some,Option.some.injEq]
   have hd2 : (i * kd.esz+j) % kd.esz=j := by rw [Nat.add_comm,Nat.add_mul_mod_self_right,Nat.mod_eq_of_lt hjl]
   rw [hd2]
   have hv' : (DatK.zero kd).cells[j]? = some v := by simpa using hv
   rw [getElem!_def,hv']
 ·cases hf
theorem cut_all (d:Dat) : d.cut 0 d.len=d := by cases d <;> simp [Dat.cut,Dat.len]
def srcF (s : Heap) (x : AV) : Option (Dat × Prop) :=
 match x.core with
 | .sl d=>some (d,x.cond)
 | .own l n =>
  match s l with
  | some ⟨_,.row d⟩=>some (d,x.cond∧n=d.len)
  | _=>none
 | _=>none
def dstF (s : Heap) (kd : DatK) (x : AV) : Option (Option Nat × Dat × Prop) :=
 match x.core with
 | .v (.slice none 0 0)=>some (none,kd.empty,x.cond)
 | .own l n =>
  match s l with
  | some ⟨_,.row d⟩=>some (some l,d,x.cond∧n=d.len)
  | _=>none
 | _=>none
def killD : Option Nat→Delta
 | none => []
 | some l => [(l,none)]
def tyOf (s : Heap) (o : Option Nat) (t : TypeId) : Bool :=
 match o with
 | none=>true
 | some l=>match s l with | some ⟨ty,_⟩=>ty == t | none=>false
def appendF (D : CD) (s : Heap) (fl:Bool) (nm:Nat) (t : TypeId) (a b : AV) : Res :=
 match D.sl t with
 | some (et,kd) =>
  match dstF s kd a,srcF s b with
  | some (l,d,c),some (d2,c2) =>
   if d.kind=kd∧d2.kind=kd∧tyOf s l et=true then
    match d.app d2 with
    | some d'=>rowRes fl nm et d' (killD l) (c∧c2∧(d.len+d2.len) * kd.bytes_≤140737488355328)
    | none=>none
   else none
  | _,_=>none
 | none=>none
theorem app_spec {d d2 d' : Dat} (h : d.app d2=some d') : d'.kind=d.kind∧d'.len=d.len+d2.len ∧
  (∀ k,k<d.len→d'.elem k=d.elem k)∧(∀ k,d'.elem (d.len+k)=d2.elem k) := by
 have g1 : ∀ {α : Type} (l l' : List α) (dv : α) (k:Nat),k<l.length→(l++l').getD k dv=l.getD k dv := by
  intro α l l' dv k hk
  simp [List.getD_eq_getElem?_getD,List.getElem?_append_left hk]
 have g2 : ∀ {α : Type} (l l' : List α) (dv : α) (k:Nat),(l++l').getD (l.length+k) dv=l'.getD k dv := by
  intro α l l' dv k
  simp [List.getD_eq_getElem?_getD,List.getElem?_append_right]
 cases d <;> cases d2 <;> simp only [Dat.app,Option.some.injEq,reduceCtorEq] at h <;> subst h <;>
  refine ⟨rfl,by simp [Dat.len],fun k hk => ?_,fun k => ?_⟩ <;> simp only [Dat.elem,Dat.len] at * <;> first | rw [g1 _ _ _ _ hk] | rw [g2]
theorem cut_elem (d:Dat) {n k : Nat} (hk : k<n) : (d.cut 0 n).elem k=d.elem k := by
 cases d <;> simp only [Dat.cut,Dat.elem,List.drop_zero] <;> (congr 1; try simp [List.getD_eq_getElem?_getD,hk])
theorem cut_kind (d:Dat) (l h:Nat) : (d.cut l h).kind=d.kind := by cases d <;> rfl
theorem row_cells {T : Nat→Prop} {d : Dat} {cur : Array Value} (hr : RowRep w T β d cur) {n : Nat} (hn : n≤d.len) :
  ∀ k j y,k<n→(d.elem k)[j]? = some y→∃ v,(cur.toList.take (n * d.esz))[k * d.esz+j]? = some v∧Rep w T β y v := by
 intro k j y hk hj
 obtain ⟨v,hv,hr'⟩ := hr k j y (by omega) hj
 refine ⟨v,?_,hr'⟩
 have hjl := elem_lt hj
 have : (k+1) * d.esz≤n * d.esz := Nat.mul_le_mul_right _ hk
 rw [Nat.add_mul] at this
 rw [List.getElem?_take,if_pos (by omega)]
 simpa using hv
theorem elem_one (d:Dat) (k:Nat) : allOne (d.elem k)=true := by cases d <;> rfl
theorem all_one_cells {T : Nat→Prop} {d : Dat} {n : Nat} {xs : List Value} (hl : xs.length=n * d.esz)
  (h : ∀ k j y,k<n→(d.elem k)[j]? = some y→∃ v,xs[k * d.esz+j]? = some v∧Rep w T β y v) : ∀ v ∈ xs,v.oneCell' = true := by
 intro v hv
 obtain ⟨i,hi⟩ := List.getElem?_of_mem hv
 have hil : i<n * d.esz := by rw [← hl]; exact (List.getElem?_eq_some_iff.1 hi).1
 have hk : i / d.esz<n := (Nat.div_lt_iff_lt_mul d.esz_pos).2 hil
 have hj : i % d.esz<d.esz := Nat.mod_lt _ d.esz_pos
 have hje : (d.elem (i / d.esz))[i % d.esz]? = some ((d.elem (i / d.esz))[i % d.esz]'(by rw [Dat.elem_length]; exact hj)) := List.getElem?_eq_getElem _
 obtain ⟨v',hv',hr⟩ := h _ _ _ hk hje
 rw [Nat.div_add_mod'] at hv'
 rw [hi] at hv'
 cases hv'
 refine hr.one ?_
 have hall : ∀ (l : List AV),allOne l=true→∀ y ∈ l,y.one=true := by
  intro l
  induction l with
  | nil=>intro _ y hy; cases hy
  | cons z l ih =>
   intro h1 y hy
   simp only [allOne,Bool.and_eq_true] at h1
   rcases List.mem_cons.1 hy with rfl | hy
   ·exact h1.1
   ·exact ih h1.2 y hy
 exact hall _ (elem_one d _) _ (List.mem_of_getElem? hje)
theorem src_ok (h : Sat F β e s u a w) {y : Operand} {q : AV} (hq : opv e y=some q) {d : Dat} {c : Prop} (hs : srcF s q=some (d,c)) (hc : c) :
  ∃ (ad0 : Option Addr) (c0:Nat) (xs : List Value),a.eval y=.slice ad0 d.len c0∧xs.length=d.len * d.esz ∧
   (ad0=none→d.len=0)∧(∀ ad,ad0=some ad→∀ j v,xs[j]? = some v→w.cell? (ad.add j)=some v) ∧
   (∀ k j y,k<d.len→(d.elem k)[j]? = some y→∃ v,xs[k * d.esz+j]? = some v∧Rep w (Stab F β s w) β y v) := by
 have rq := h.opv hq
 unfold srcF at hs
 split at hs
 ·rename_i d' hqc
  simp only [Option.some.injEq,Prod.mk.injEq] at hs
  obtain ⟨rfl,rfl⟩ := hs
  have rq' := rq.core hc
  rw [hqc] at rq'
  simp only [Rep] at rq'
  obtain ⟨ad0,c0,e1,_,_,e4⟩ := SlRep.elem (β := β) rq'
  -- the cells,element by element
  have build : ∀ n,n≤d'.len→∃ xs : List Value,xs.length=n * d'.esz∧(∀ ad,ad0=some ad→∀ j v,xs[j]? = some v→w.cell? (ad.add j)=some v) ∧
    (∀ k j y,k<n→(d'.elem k)[j]? = some y→∃ v,xs[k * d'.esz+j]? = some v∧Rep w (Stab F β s w) β y v) := by
   intro n
   induction n with
   | zero=>intro _; exact ⟨[],by simp,by intro ad _ j v hj; simp at hj,by intro k j y hk; omega⟩
   | succ n ih =>
    intro hn
    obtain ⟨xs,h1,h2,h3⟩ := ih (by omega)
    obtain ⟨ad,rfl,_,hel⟩ := e4 (by omega)
    obtain ⟨us,hus,hcu⟩ := hel n (by omega)
    have hul := hus.length_eq
    rw [Dat.elem_length] at hul
    refine ⟨xs++us,by rw [List.length_append,h1,← hul,Nat.add_mul]; omega,?_,?_⟩
    ·intro ad' had j v hj
     cases had
     by_cases hlt : j<xs.length
     ·rw [List.getElem?_append_left hlt] at hj
      exact h2 ad rfl j v hj
     ·rw [List.getElem?_append_right (by omega)] at hj
      have := hcu _ v hj
      rw [add_add,← h1] at this
      rw [show xs.length+(j - xs.length)=j from by omega] at this
      exact this
    ·intro k j y hk hj
     by_cases hlt : k<n
     ·obtain ⟨v,hv,hr⟩ := h3 k j y hlt hj
      refine ⟨v,?_,hr⟩
      rw [List.getElem?_append_left (List.getElem?_eq_some_iff.1 hv).1]
      exact hv
     ·have : k=n := by omega
      subst this
      obtain ⟨v,hv,hr⟩ := hus.get hj
      refine ⟨v,?_,hr⟩
      rw [List.getElem?_append_right (by omega),h1,Nat.add_sub_cancel_left]
      exact hv
  obtain ⟨xs,h1,h2,h3⟩ := build d'.len (Nat.le_refl _)
  refine ⟨ad0,c0,xs,e1,h1,?_,h2,h3⟩
  intro h0
  rcases Nat.eq_zero_or_pos d'.len with hz | hp
  ·exact hz
  ·obtain ⟨ad,had,_⟩ := e4 hp
   rw [h0] at had; cases had
 ·rename_i l n hqc
  split at hs
  ·rename_i ty d' hsl
   simp only [Option.some.injEq,Prod.mk.injEq] at hs
   obtain ⟨rfl,rfl⟩ := hs
   have hcut : d' = d'.cut 0 n := by rw [hc.2,cut_all]
   replace hc := And.intro hc.1 (Nat.le_of_eq hc.2)
   rw [hcut]
   have rq' := rq.core hc.1
   rw [hqc] at rq'
   simp only [Rep] at rq'
   have hlen : (d'.cut 0 n).len=n := by rw [Dat.cut_len _ (Nat.zero_le _) hc.2]; omega
   have hesz : (d'.cut 0 n).esz=d'.esz := by rw [Dat.esz_kind,cut_kind,← Dat.esz_kind]
   have hloc := h.loc l _ hsl
   simp only [LocOK,CellsOK] at hloc
   rcases hloc with ⟨b1,b2⟩ | ⟨g,cap,cur,b1,b2,b3,b4,b5,b6⟩
   ·rcases rq' with ⟨_,rfl,e3⟩ | ⟨g,cap,e1,_⟩
    ·exact ⟨none,0,[],by rw [e3,hlen],by rw [hlen]; simp,fun _=>hlen,by intro ad had; (cases had),by intro k j y hk; omega⟩
    ·rw [b1] at e1; cases e1
   ·rcases rq' with ⟨e1,_⟩ | ⟨g',cap',e1,e2,e3⟩
    ·rw [b1] at e1; cases e1
    ·rw [b1] at e1
     simp only [Option.some.injEq,Bl.blk.injEq] at e1
     obtain ⟨rfl,rfl⟩ := e1
     have hsz : n * d'.esz≤cur.size := by rw [b5]; exact Nat.mul_le_mul_right _ (by omega)
     refine ⟨some ⟨g,0,none⟩,cap,cur.toList.take (n * d'.esz),by rw [e3,hlen],?_,(by intro h0; cases h0),?_,?_⟩
     ·rw [hlen,hesz,List.length_take,Array.length_toList]; omega
     ·intro ad had j v hj
      cases had
      rw [List.getElem?_take] at hj
      split at hj
      ·rw [Addr.add_lit,Nat.zero_add,cell_of_row w g _ cur ty (0,0) b2]
       simpa using hj
      ·cases hj
     ·intro k j y hk hj
      rw [hlen] at hk
      rw [cut_elem d' hk] at hj
      rw [hesz]
      exact row_cells b6 hc.2 k j y hk hj
  ·cases hs
 ·cases hs
end
end Go.Ab

namespace Go.Ab
open Go.RowKit
section
variable {F : Fr} {β : Names} {e : Nat→Option AV} {s : Heap} {u : Nat→Prop} {a : Act} {w : World} {P : Program} {o : Oper} {x : AV} {D : CD} {δ : Delta} {φ : Prop}
def Lies (β : Names) (s : Heap) (l : Option Nat) (v:Value) : Prop :=
 match l with
 | none=>v.ownBlock=none
 | some l0 => ∃ c0,s l0=some c0∧((β l0=some .nil∧v.ownBlock=none) ∨ ∃ g cap,β l0=some (.blk g cap)∧v.ownBlock=some g)
theorem sat_app (h : Sat F β e s u a w) {nm : Nat} (hnm : ¬ u nm) {l : Option Nat} {v v' : Value} {w' : World} {et : TypeId} {d d2 d' : Dat} {xs news : List Value}
  (hl : Lies β s l v) (happ : d.app d2=some d') (hk : d2.kind=d.kind) (hx : xs.length=d.len * d.esz)
  (hxs : ∀ k j y,k<d.len→(d.elem k)[j]? = some y→∃ v,xs[k * d.esz+j]? = some v∧Rep w (Stab F β s w) β y v)
  (hns : ∀ k j y,k<d2.len→(d2.elem k)[j]? = some y→∃ v,news[k * d2.esz+j]? = some v∧Rep w (Stab F β s w) β y v)
  (hown : w'.ownsRow 0 et d.esz v' (d.len+d2.len) (xs++news)) (hg : w.grownBy w' v.ownBlock) (hb : v'.ownBlock=v.ownBlock ∨ v'.ownBlock=some w.heap.size) :
  ∃ β',Sat F β' e (upds s (killD l++[(nm,some ⟨et,.row d'⟩)])) (updu u (killD l++[(nm,some ⟨et,.row d'⟩)])) a w'∧OwnRep (β' nm) d'.len v' := by
 obtain ⟨a1,a2,a3,a4⟩ := app_spec happ
 have hesz : d'.esz=d.esz := by rw [Dat.esz_kind,a1,← Dat.esz_kind]
 have hesz2 : d2.esz=d.esz := by rw [Dat.esz_kind,hk,← Dat.esz_kind]
 -- the new row's place
 obtain ⟨bl,hbl⟩ : ∃ bl : Bl,(bl=.nil∧v' = .slice none 0 0∧d.len+d2.len=0) ∨
   ∃ g cap cur,bl=.blk g cap∧v' = .slice (some ⟨g,0,none⟩) (d.len+d2.len) cap∧w'.heap[g]? = some (.cells cur et (0,0))∧d.len+d2.len≤cap∧cap≤maxLen∧cur.size=cap * d.esz∧cur.toList.take ((d.len+d2.len) * d.esz)=xs++news := by
  rcases hown.2 with ⟨h1,h2⟩ | ⟨g,cap,cur,h1,_,h2,h3,h4,h5,h6⟩
  ·exact ⟨.nil,.inl ⟨rfl,h1,h2⟩⟩
  ·exact ⟨.blk g cap,.inr ⟨g,cap,cur,rfl,h1,h2,h3,h4,h5,h6⟩⟩
 have hnone : β nm=none := by
  cases hb : β nm with
  | none=>rfl
  | some p=>exact absurd (h.dom nm p hb) hnm
 have hsnone : s nm=none := by
  cases hs : s nm with
  | none=>rfl
  | some c' =>
   have := h.loc nm c' hs
   unfold LocOK at this
   cases hcc : c'.c <;> simp only [hcc,CellsOK,hnone] at this
   ·obtain ⟨g,cap,arr,h1,_⟩ := this; cases h1
   ·rcases this with ⟨h1,_⟩ | ⟨g,cap,arr,h1,_⟩ <;> cases h1
 have hs' : ∀ k,upds s (killD l++[(nm,some ⟨et,.row d'⟩)]) k=if k=nm then some ⟨et,.row d'⟩ else if l=some k then none else s k := by
  intro k
  rw [upds_append]
  unfold updS
  by_cases h1 : k=nm
  ·simp [h1]
  ·simp only [h1,if_false]
   cases l with
   | none=>simp [killD,upds]
   | some l0 =>
    simp only [killD,upds,List.foldl_cons,List.foldl_nil,updS,Option.some.injEq]
    by_cases h2 : k=l0
    ·simp [h2]
    ·simp [h2,Ne.symm h2]
 have hlive_l : ∀ g,v.ownBlock=some g→∃ l0 c0 cap,l=some l0∧s l0=some c0∧β l0=some (.blk g cap) := by
  intro g hvg
  cases l with
  | none=>simp only [Lies] at hl; rw [hl] at hvg; cases hvg
  | some l0 =>
   obtain ⟨c0,h1,h2⟩ := hl
   rcases h2 with ⟨_,h3⟩ | ⟨g',cap,h3,h4⟩
   ·rw [h3] at hvg; cases hvg
   ·rw [h4] at hvg; cases hvg; exact ⟨l0,c0,cap,rfl,h1,h3⟩
 have hkeep : ∀ b,b<w.heap.size→¬ Live β s b→w'.heap[b]? = w.heap[b]? := by
  intro b hb' hnl
  refine hg.block b hb' (fun he => ?_)
  obtain ⟨l0,c0,cap,_,h1,h2⟩ := hlive_l b he.symm
  exact hnl ⟨l0,c0,cap,h1,h2⟩
 have hβ : ∀ l p,β l=some p→updB β nm bl l=some p := by
  intro l p hl
  unfold updB
  rw [if_neg]
  ·exact hl
  ·rintro rfl; rw [hnone] at hl; cases hl
 have hlive : ∀ b,Live (updB β nm bl) (upds s (killD l++[(nm,some ⟨et,.row d'⟩)])) b→b<w.heap.size→Live β s b := by
  rintro b ⟨k,c',cap',hk',hb'⟩ hlt
  rw [hs'] at hk'
  unfold updB at hb'
  by_cases he : k=nm
  ·rw [if_pos he] at hb'
   simp only [Option.some.injEq] at hb'
   subst hb'
   rcases hbl with ⟨h1,_⟩ | ⟨g,cap,cur,h1,h2,_⟩
   ·cases h1
   ·simp only [Bl.blk.injEq] at h1
    obtain ⟨rfl,rfl⟩ := h1
    rw [h2] at hb
    simp only [Value.ownBlock] at hb
    rcases hb with hb | hb
    ·obtain ⟨l0,c0,cap,_,h3,h4⟩ := hlive_l b hb.symm
     exact ⟨l0,c0,cap,h3,h4⟩
    ·simp only [Option.some.injEq] at hb; omega
  ·rw [if_neg he] at hb' hk'
   split at hk'
   ·cases hk'
   ·exact ⟨k,c',cap',hk',hb'⟩
 obtain ⟨hT,hw⟩ := h.grow (w' := w') (β' := updB β nm bl) (s' := upds s (killD l++[(nm,some ⟨et,.row d'⟩)])) hg.size hkeep hlive
 refine ⟨updB β nm bl,?_,?_⟩
 ·refine h.step hg.os hg.tape hg.output hg.size hkeep hβ ?_ hlive ?_ ?_ ?_
  ·intro k p hk'
   rw [updu_append]
   unfold updB at hk'
   by_cases he : k=nm
   ·exact .inr he
   ·rw [if_neg he] at hk'; exact .inl (.inl (h.dom k p hk'))
  ·intro k c' hk'
   rw [hs'] at hk'
   by_cases he : k=nm
   ·rw [if_pos he] at hk'
    cases hk'
    subst he
    simp only [LocOK,CellsOK]
    rcases hbl with ⟨h1,h2,h3⟩ | ⟨g,cap,cur,h1,h2,h3,h4,h5,h6,h7⟩
    ·exact .inl ⟨by simp [updB,h1],by rw [a2]; exact h3⟩
    ·refine .inr ⟨g,cap,cur,by simp [updB,h1],h3,by rw [a2]; exact h4,h5,by rw [h6,hesz],?_⟩
     intro i j y hi hj
     have hjl := elem_lt hj
     rw [hesz] at hjl ⊢
     have hcur : ∀ (q:Nat) (z:Value),(xs++news)[q]? = some z→cur[q]? = some z := by
      intro q z hq
      rw [← h7,List.getElem?_take] at hq
      split at hq
      ·simpa using hq
      ·cases hq
     by_cases hlt : i<d.len
     ·rw [a3 i hlt] at hj
      obtain ⟨z,hz,hr⟩ := hxs i j y hlt hj
      refine ⟨z,hcur _ _ ?_,Rep.mono hT hw y z (fun l _ p hp=>hβ l p hp) hr⟩
      rw [List.getElem?_append_left (List.getElem?_eq_some_iff.1 hz).1]
      exact hz
     ·have hi' : i=d.len+(i - d.len) := by omega
      rw [hi',a4] at hj
      obtain ⟨z,hz,hr⟩ := hns (i - d.len) j y (by omega) hj
      refine ⟨z,hcur _ _ ?_,Rep.mono hT hw y z (fun l _ p hp=>hβ l p hp) hr⟩
      have h8 : i * d.esz+j=xs.length+((i - d.len) * d2.esz+j) := by
       rw [hx,hesz2,← Nat.add_assoc,← Nat.add_mul,← hi']
      rw [h8,List.getElem?_append_right (by omega),Nat.add_sub_cancel_left]
      exact hz
   ·rw [if_neg he] at hk'
    split at hk'
    ·cases hk'
    ·rename_i hne
     refine CellsOK.mono hT hw hβ (fun g cap' hg' => ?_) (h.loc k c' hk')
     refine hg.block g (Live.lt h ⟨k,c',cap',hk',hg'⟩) (fun he' => ?_)
     obtain ⟨l0,c0,cap0,h1,h2,h3⟩ := hlive_l g he'.symm
     have := h.inj k l0 c' c0 g cap' cap0 hk' h2 hg' h3
     subst this
     exact hne h1
  ·intro k k' c1 c2 g cap1 cap2 hk1 hk2 hb1 hb2
   have base : ∀ k' c2 g cap1 cap2,updB β nm bl nm=some (.blk g cap1)→k'≠nm→upds s (killD l++[(nm,some ⟨et,.row d'⟩)]) k' = some c2→updB β nm bl k' = some (.blk g cap2)→False := by
    intro k' c2 g cap1 cap2 hb1 hne hk2 hb2
    simp only [updB,if_true,Option.some.injEq] at hb1
    unfold updB at hb2
    rw [if_neg hne] at hb2
    rw [hs',if_neg hne] at hk2
    split at hk2
    ·cases hk2
    ·rename_i hne'
     rcases hbl with ⟨h1,_⟩ | ⟨g',cap,cur,h1,h2,_⟩
     ·rw [h1] at hb1; cases hb1
     ·rw [h1] at hb1
      simp only [Bl.blk.injEq] at hb1
      obtain ⟨rfl,rfl⟩ := hb1
      rw [h2] at hb
      simp only [Value.ownBlock] at hb
      rcases hb with hb | hb
      ·obtain ⟨l0,c0,cap0,h3,h4,h5⟩ := hlive_l g' hb.symm
       have := h.inj k' l0 c2 c0 g' cap2 cap0 hk2 h4 hb2 h5
       subst this
       exact hne' h3
      ·simp only [Option.some.injEq] at hb
       have := Live.lt h ⟨k',c2,cap2,hk2,hb2⟩
       omega
   by_cases he : k=nm <;> by_cases he' : k' = nm
   ·rw [he,he']
   ·subst he; exact (base k' c2 g cap1 cap2 hb1 he' hk2 hb2).elim
   ·subst he'; exact (base k c1 g cap2 cap1 hb2 he hk1 hb1).elim
   ·unfold updB at hb1 hb2
    rw [if_neg he] at hb1
    rw [if_neg he'] at hb2
    rw [hs',if_neg he] at hk1
    rw [hs',if_neg he'] at hk2
    split at hk1
    ·cases hk1
    ·split at hk2
     ·cases hk2
     ·exact h.inj k k' c1 c2 g cap1 cap2 hk1 hk2 hb1 hb2
  ·intro k c' g cap' hk' hb'
   rw [hs'] at hk'
   unfold updB at hb'
   by_cases he : k=nm
   ·rw [if_pos he] at hb'
    simp only [Option.some.injEq] at hb'
    rcases hbl with ⟨h1,_⟩ | ⟨g',cap,cur,h1,h2,_⟩
    ·rw [h1] at hb'; cases hb'
    ·rw [h1] at hb'
     simp only [Bl.blk.injEq] at hb'
     obtain ⟨rfl,rfl⟩ := hb'
     rw [h2] at hb
     simp only [Value.ownBlock] at hb
     rcases hb with hb | hb
     ·obtain ⟨l0,c0,cap0,_,h4,h5⟩ := hlive_l g' hb.symm
      exact h.out l0 c0 g' cap0 h4 h5
     ·simp only [Option.some.injEq] at hb
      right
      have := h.size
      omega
   ·rw [if_neg he] at hb' hk'
    split at hk'
    ·cases hk'
    ·exact h.out k c' g cap' hk' hb'
 ·rcases hbl with ⟨h1,h2,h3⟩ | ⟨g,cap,cur,h1,h2,h3,h4,_⟩
  ·exact .inl ⟨by simp [updB,h1],by rw [a2]; exact h3,h2⟩
  ·exact .inr ⟨g,cap,by simp [updB,h1],by rw [a2]; exact h4,by rw [a2]; exact h2⟩
theorem run_append_nilsrc (t ty e : TypeId) (i : TypeInfo) (ht : P.underlying t=some (.slice e)) (hi : P.info? e=some i)
  (v:Value) (n size:Nat) (xs : List Value) (hown : w.ownsRow 0 e size v n xs) (c:Nat) : (Builtin.append_ #[t,t] ty #[v,.slice none 0 c]).run P w=.ok v w := by
 rcases hown.2 with ⟨rfl,rfl⟩ | ⟨g,cap,cur,rfl,_,_,hnc,_⟩
 ·simp [Builtin.append_,run_underlying ht,sizeOf,typeInfo,hi,Builtin.lenOf,Builtin.firstCells]
 ·simp [Builtin.append_,run_underlying ht,sizeOf,typeInfo,hi,Builtin.lenOf,Builtin.firstCells,hnc,storeCells]
theorem dst_ok (h : Sat F β e s u a w) {y : Operand} {p : AV} (hp : opv e y=some p) {kd : DatK} {l : Option Nat} {d : Dat} {c : Prop} (hd : dstF s kd p=some (l,d,c)) (hk : d.kind=kd) (hc : c) {et : TypeId} (ht : tyOf s l et=true) :
  Lies β s l (a.eval y)∧∃ xs : List Value,xs.length=d.len * d.esz∧w.ownsRow 0 et d.esz (a.eval y) d.len xs ∧
   (∀ k j y,k<d.len→(d.elem k)[j]? = some y→∃ v,xs[k * d.esz+j]? = some v∧Rep w (Stab F β s w) β y v) := by
 have rp := h.opv hp
 unfold dstF at hd
 split at hd
 ·rename_i hpc
  simp only [Option.some.injEq,Prod.mk.injEq] at hd
  obtain ⟨rfl,rfl,rfl⟩ := hd
  have rp' := rp.core hc
  rw [hpc] at rp'
  simp only [Rep] at rp'
  have hlen : kd.empty.len=0 := by cases kd <;> rfl
  refine ⟨by simp only [Lies,rp']; rfl,[],by rw [hlen]; simp,?_,by intro k j y hk'; omega⟩
  rw [rp',hlen]
  exact World.ownsRow_nil w 0 et _
 ·rename_i l0 n hpc
  split at hd
  ·rename_i ty d' hsl
   simp only [Option.some.injEq,Prod.mk.injEq] at hd
   obtain ⟨rfl,rfl,rfl⟩ := hd
   have hty : ty=et := by simpa [tyOf,hsl] using ht
   subst hty
   have hcut : d' = d'.cut 0 n := by rw [hc.2,cut_all]
   replace hc := And.intro hc.1 (Nat.le_of_eq hc.2)
   rw [hcut]
   have rp' := rp.core hc.1
   rw [hpc] at rp'
   simp only [Rep] at rp'
   have hlen : (d'.cut 0 n).len=n := by rw [Dat.cut_len _ (Nat.zero_le _) hc.2]; omega
   have hesz : (d'.cut 0 n).esz=d'.esz := by rw [Dat.esz_kind,cut_kind,← Dat.esz_kind]
   have hloc := h.loc l0 _ hsl
   simp only [LocOK,CellsOK] at hloc
   rcases hloc with ⟨b1,b2⟩ | ⟨g,cap,cur,b1,b2,b3,b4,b5,b6⟩
   ·rcases rp' with ⟨_,rfl,e3⟩ | ⟨g,cap,e1,_⟩
    ·refine ⟨⟨_,hsl,.inl ⟨b1,by rw [e3]; rfl⟩⟩,[],by rw [hlen]; simp,?_,by intro k j y hk'; omega⟩
     rw [e3,hlen]
     exact World.ownsRow_nil w 0 ty _
    ·rw [b1] at e1; cases e1
   ·rcases rp' with ⟨e1,_⟩ | ⟨g',cap',e1,e2,e3⟩
    ·rw [b1] at e1; cases e1
    ·rw [b1] at e1
     simp only [Option.some.injEq,Bl.blk.injEq] at e1
     obtain ⟨rfl,rfl⟩ := e1
     have hsz : n * d'.esz≤cur.size := by rw [b5]; exact Nat.mul_le_mul_right _ (by omega)
     refine ⟨⟨_,hsl,.inr ⟨g,cap,b1,by rw [e3]; rfl⟩⟩,cur.toList.take (n * d'.esz),?_,?_,?_⟩
     ·rw [hlen,hesz,List.length_take,Array.length_toList]; omega
     ·rw [e3,hlen,hesz]
      exact ⟨by rw [List.length_take,Array.length_toList]; omega,.inr ⟨g,cap,cur,rfl,Nat.zero_le _,b2,e2,b4,b5,rfl⟩⟩
     ·intro k j y hk' hj
      rw [hlen] at hk'
      rw [cut_elem d' hk'] at hj
      rw [hesz]
      exact row_cells b6 hc.2 k j y hk' hj
  ·cases hd
 ·cases hd
theorem run_append' (hD : COK P D) (h : Sat F β e s u a w) {fl : Bool} {nm : Nat} (hnm : ¬ u nm) {t : TypeId} {y z : Operand} (ho : o.op=.call { callee := .builtin .append,args := #[y,z],argTypes := #[t,t] }) {p q : AV}
  (hp : opv e y=some p) (hq : opv e z=some q) (hf : appendF D s fl nm t p q=some (x,δ,φ)) (hφ : φ) : Does P F e s u a w o x δ := by
 unfold appendF at hf
 split at hf
 ·rename_i et kd hsl
  obtain ⟨hu,ii,hi1,hi2,hi3,hi4⟩ := hD.sl _ _ _ hsl
  split at hf
  ·rename_i l d c d2 c2 hd hs2
   split at hf
   ·rename_i hks
    obtain ⟨hk1,hk2,hty⟩ := hks
    split at hf
    ·rename_i d' happ
     have hφ' : c∧c2∧(d.len+d2.len) * kd.bytes_≤140737488355328 := by
      unfold rowRes at hf
      split at hf <;> (simp only [Option.some.injEq,Prod.mk.injEq] at hf; rw [hf.2.2]; exact hφ)
     obtain ⟨f1,f2,f3⟩ := hφ'
     obtain ⟨hlies,xs,hx1,hown,hx2⟩ := dst_ok h hp hd hk1 f1 hty
     obtain ⟨ad0,c0,news,hn1,hn2,hn3,hn4,hn5⟩ := src_ok h hq hs2 f2
     have hesz : d.esz=ii.size := by rw [Dat.esz_kind,hk1,hi3]
     have hesz2 : d2.esz=ii.size := by rw [Dat.esz_kind,hk2,hi3]
     have hzs : (DatK.zero kd).cells.size=kd.esz := by cases kd <;> rfl
     have hbpos : 1≤kd.bytes_ := by cases kd <;> decide
     have h63 : d.len+d2.len≤maxLen := by
      have : (d.len+d2.len) * 1≤(d.len+d2.len) * kd.bytes_ := Nat.mul_le_mul_left _ hbpos
      unfold maxLen
      omega
     have hrun : ∃ v' w',(Builtin.append_ #[t,t] o.type #[a.eval y,a.eval z]).run P w=.ok v' w'∧w'.ownsRow 0 et d.esz v' (d.len+d2.len) (xs++news)∧w.grownBy w' (a.eval y).ownBlock ∧
       (v'.ownBlock=(a.eval y).ownBlock ∨ v'.ownBlock=some w.heap.size) := by
      cases ad0 with
      | none =>
       have h0 := hn3 rfl
       have hn : news=[] := List.eq_nil_of_length_eq_zero (by rw [hn2,h0]; simp)
       refine ⟨a.eval y,w,?_,?_,World.grownBy.refl w _,.inl rfl⟩
       ·rw [hn1,h0]
        exact run_append_nilsrc t o.type et ii hu hi1 (a.eval y) d.len d.esz xs hown c0
       ·rw [h0,hn,List.append_nil,Nat.add_zero]; exact hown
      | some ad =>
       have hone : ∀ v ∈ news,v.oneCell' = true := all_one_cells hn2 hn5
       obtain ⟨v',w',hr,h1,h2,_,h3⟩ := run_append_own_at (P := P) w 0 t o.type et ii (DatK.zero kd) d.esz kd.bytes_ hu hi1 hi2 hesz.symm hi4 (by rw [hzs,← hi3,hesz]) d.esz_pos (a.eval y) d.len xs hown ad d2.len c0 news
        (by rw [hn2,hesz2,hesz]) (hn4 ad rfl) hone h63 f3 (Nat.zero_le _)
       exact ⟨v',w',by rw [hn1]; exact hr,h1,h2,h3⟩
     obtain ⟨v',w',hr,h1,h2,h3⟩ := hrun
     refine does_row fl (nm := nm) (t := et) (d := d') (δ := killD l) ?_ hf
     intro K Q hK
     obtain ⟨β',hsat,hrep⟩ := sat_app h hnm hlies happ (by rw [hk1,hk2]) hx1 hx2 hn5 h1 h2 h3
     unfold Oper.wp execOp
     simp only [ho,resolve,invoke,builtin,Sem.run_bind,Sem.run_pure,Result.andThen_ok,List.map_toArray,List.map_cons,List.map_nil,hr]
     exact hK v' w' β' hsat (by simp only [Rep]; exact hrep)
    ·cases hf
   ·cases hf
  ·cases hf
 ·cases hf
end
end Go.Ab

namespace Go.Ab
open Go.RowKit
inductive PK where
 | o
 | s (k : DatK)
 | c (k : DatK) (t : TypeId)
 | a (ks : List (Option DatK))
structure FnS where
 sig : List PK
 g : Bool→List AV→Option (AV × List (TypeId × Dat) × Prop)
 pt : Option TypeId := none
 pg : List AV→List AV→Option (AV × List AV × Prop) := fun _ _=>none
def rowsHeap (rows : List (TypeId × Dat)) : Heap := fun j=>(rows[j]?).map fun p=>⟨p.1,.row p.2⟩
abbrev noNames : Names := fun _=>none
def ConsOK (w : World) (T : Nat→Prop) (t : TypeId) (d:Dat) (y:Value) (bC : Option Nat) : Prop :=
 (y=.slice none 0 0∧d.len=0∧bC=none) ∨
 ∃ g cap cur,y=.slice (some ⟨g,0,none⟩) d.len cap∧bC=some g∧g<w.heap.size∧¬ T g∧w.heap[g]? = some (.cells cur t (0,0))∧d.len≤cap∧cap≤maxLen∧cur.size=cap * d.esz∧RowRep w T noNames d cur
def ArgsRep (w : World) (T : Nat→Prop) : List PK→List AV→List Value→Option Nat→Prop
 | [],[],[],bC=>bC=none
 | .c k t :: sg,x :: xs,y :: ys,bC=>(∃ d,x=.sl d∧d.kind=k∧ConsOK w T t d y bC)∧ArgsRep w T sg xs ys none
 | _ :: sg,x :: xs,y :: ys,bC=>Rep w T noNames x y∧ArgsRep w T sg xs ys bC
 | _,_,_,_=>False
def CStab (w : World) (T : Nat→Prop) (bC : Option Nat) (w' : World) (β' : Names) (s' : Heap) (b:Nat) : Prop :=
 (T b ∨ bC=some b ∨ (w.heap.size≤b∧b<w'.heap.size))∧¬ Live β' s' b
structure PostF (w : World) (T : Nat→Prop) (bC : Option Nat) (w' : World) (β' : Names) (r : AV) (rows : List (TypeId × Dat)) (y:Value) : Prop where
 os : w'.os=w.os
 tape : w'.tape=w.tape
 output : w'.output=w.output
 size : w.heap.size≤w'.heap.size
 keep : ∀ b,b<w.heap.size→bC≠some b→w'.heap[b]? = w.heap[b]?
 rep : Rep w' (CStab w T bC w' β' (rowsHeap rows)) β' r y
 loc : ∀ l c,rowsHeap rows l=some c→LocOK w' (CStab w T bC w' β' (rowsHeap rows)) β' l c
 inj : ∀ l l' c c' g cap cap',rowsHeap rows l=some c→rowsHeap rows l' = some c'→β' l=some (.blk g cap)→β' l' = some (.blk g cap')→l=l'
 out : ∀ l c g cap,rowsHeap rows l=some c→β' l=some (.blk g cap)→bC=some g ∨ w.heap.size≤g
 dom : ∀ l p,β' l=some p→l<rows.length
def FnOK (P : Program) (f : FuncId) (fs : FnS) : Prop :=
 ∀ fl args r rows φ,fs.g fl args=some (r,rows,φ)→φ→∀ (w : World) (T : Nat→Prop) (vals : List Value) (bC : Option Nat),(∀ b,T b→b<w.heap.size)→GLB w T→ArgsRep w T fs.sig args vals bC →
  Calls P f vals.toArray w fun en w' => ∃ y β',en=.returned y∧PostF w T bC w' β' r rows y
mutual
def AV.plainR : AV→Bool
 | .v _=>true
 | .own _ _=>true
 | .agg xs=>AV.plainRL xs
 | .tup xs=>AV.plainRL xs
 | .g _ x=>AV.plainR x
 | _=>false
def AV.plainRL : List AV→Bool
 | []=>true
 | x :: xs=>AV.plainR x && AV.plainRL xs
end
def flatRows : List (TypeId × Dat)→Bool
 | []=>true
 | p :: r=>(match p.2.kind with | .intss=>false | _=>true) && flatRows r
mutual
def AV.ren (f : Nat→Nat) : AV→AV
 | .own l n => .own (f l) n
 | .ptr l off => .ptr (f l) off
 | .pel l e k off => .pel (f l) e k off
 | .ep xs => .ep (AV.renL f xs)
 | .agg xs => .agg (AV.renL f xs)
 | .tup xs => .tup (AV.renL f xs)
 | .fn k xs => .fn k (AV.renL f xs)
 | .g b x => .g b (AV.ren f x)
 | x=>x
def AV.renL (f : Nat→Nat) : List AV→List AV
 | [] => []
 | x :: xs=>AV.ren f x :: AV.renL f xs
end
def normA (s : Heap) : Option DatK→AV→Option (AV × Prop × List Nat)
 | none,x=>if x.core.locs=[] then some (x.core,x.cond,[]) else none
 | some k,x =>
  match x.core with
  | .sl d=>if d.kind=k then some (.sl d,x.cond,[]) else none
  | .v (.slice none 0 0)=>some (.sl k.empty,x.cond,[])
  | .own l n =>
   match s l with
   | some ⟨_,.row d⟩=>if d.kind=k then some (.sl d,x.cond∧n=d.len,[l]) else none
   | _=>none
  | _=>none
def normAL (s : Heap) : List (Option DatK)→List AV→Option (List AV × Prop × List Nat)
 | [],[]=>some ([],True,[])
 | k :: ks,x :: xs =>
  match normA s k x,normAL s ks xs with
  | some (y,c,v),some (ys,c',v')=>some (y :: ys,c∧c',v++v')
  | _,_=>none
 | _,_=>none
def normP (s : Heap) : PK→AV→Option (AV × Prop × List Nat × Option Nat)
 | .o,x=>(normA s none x).map fun r=>(r.1,r.2.1,r.2.2,none)
 | .s k,x=>(normA s (some k) x).map fun r=>(r.1,r.2.1,r.2.2,none)
 | .a ks,x =>
  match x.core with
  | .agg xs=>(normAL s ks xs).map fun r=>(.agg r.1,x.cond∧r.2.1,r.2.2,none)
  | _=>none
 | .c k t,x =>
  match x.core with
  | .v (.slice none 0 0)=>some (.sl k.empty,x.cond,[],none)
  | .own l n =>
   match s l with
   | some ⟨ty,.row d⟩=>if d.kind=k∧ty=t then some (.sl d,x.cond∧n=d.len,[],some l) else none
   | _=>none
  | _=>none
def isC : PK→Bool
 | .c _ _=>true
 | _=>false
def normL (s : Heap) : List PK→List AV→Option (List AV × Prop × List Nat × Option Nat)
 | [],[]=>some ([],True,[],none)
 | k :: ks,x :: xs =>
  match normP s k x,normL s ks xs with
  | some (y,c,v,l),some (ys,c',v',l') =>
   if (isC k=true∧l' = none) ∨ isC k=false then some (y :: ys,c∧c',v++v',if isC k then l else l') else none
  | _,_=>none
 | _,_=>none
def nameRows (nm:Nat) (rows : List (TypeId × Dat)) : Nat→Delta
 | 0 => []
 | k+1=>nameRows nm rows k++[(nm+1000 * k,rowsHeap rows k)]
def consOk (l : Option Nat) (vw : List Nat) : Bool :=
 match l with
 | none=>true
 | some l0 => !vw.contains l0
def callF (s : Heap) (fl:Bool) (nm:Nat) (fs : FnS) (xs : List AV) : Res :=
 match normL s fs.sig xs with
 | some (ys,c,vw,l) =>
  match fs.g fl ys with
  | some (r,rows,φ) =>
   if (vw=[] ∨ (r.plainR=true∧flatRows rows=true))∧consOk l vw=true then
    some (r.ren (fun k=>nm+1000 * k),killD l++nameRows nm rows rows.length,c∧φ)
   else none
  | none=>none
 | none=>none
section
variable {F : Fr} {β : Names} {e : Nat→Option AV} {s : Heap} {u : Nat→Prop} {a : Act} {w : World} {P : Program} {o : Oper} {x : AV} {D : CD} {δ : Delta} {φ : Prop}
mutual
theorem Rep.plainR {w w' : World} {T T' : Nat→Prop} {β : Names} : ∀ (x : AV) (y:Value),x.plainR=true→Rep w T β x y→Rep w' T' β x y
 | .v x,y,_,h=>by simpa only [Rep] using h
 | .own l n,y,_,h=>by simpa only [Rep] using h
 | .agg xs,y,hf,h=>by
  simp only [Rep] at h ⊢
  obtain ⟨ys,h1,h2⟩ := h
  exact ⟨ys,h1,RepL.plainR xs _ (by simpa only [AV.plainR] using hf) h2⟩
 | .tup xs,y,hf,h=>by
  simp only [Rep] at h ⊢
  obtain ⟨ys,h1,h2⟩ := h
  exact ⟨ys,h1,RepL.plainR xs _ (by simpa only [AV.plainR] using hf) h2⟩
 | .g b x,y,hf,h=>by
  simp only [Rep] at h ⊢
  exact ⟨fun e=>Rep.plainR x y (by simpa only [AV.plainR] using hf) (h.1 e),h.2⟩
 | .any,_,hf,_=>by simp [AV.plainR] at hf
 | .sl _,_,hf,_=>by simp [AV.plainR] at hf
 | .ptr _ _,_,hf,_=>by simp [AV.plainR] at hf
 | .pel _ _ _ _,_,hf,_=>by simp [AV.plainR] at hf
 | .ep _,_,hf,_=>by simp [AV.plainR] at hf
 | .fn _ _,_,hf,_=>by simp [AV.plainR] at hf
theorem RepL.plainR {w w' : World} {T T' : Nat→Prop} {β : Names} : ∀ (xs : List AV) (ys : List Value),AV.plainRL xs=true→RepL w T β xs ys→RepL w' T' β xs ys
 | [],[],_,_=>by simp [RepL]
 | x :: xs,y :: ys,hf,h=>by
  simp only [RepL] at h ⊢
  simp only [AV.plainRL,Bool.and_eq_true] at hf
  exact ⟨Rep.plainR x y hf.1 h.1,RepL.plainR xs ys hf.2 h.2⟩
 | [],_ :: _,_,h=>by simp [RepL] at h
 | _ :: _,[],_,h=>by simp [RepL] at h
end
theorem RowRep.flatT {w w' : World} {T T' : Nat→Prop} {β β' : Names} {d : Dat} {cur : Array Value} (hd : d.kind≠.intss) (h : RowRep w T β d cur) : RowRep w' T' β' d cur := by
 intro k j x hk hj
 obtain ⟨y,hy,hr⟩ := h k j x hk hj
 obtain ⟨z,hz⟩ := Dat.elem_flat hd k x (List.mem_of_getElem? hj)
 subst hz
 exact ⟨y,hy,by simpa only [Rep] using hr⟩
theorem flatRows_get : ∀ {rows : List (TypeId × Dat)},flatRows rows=true→∀ (j:Nat) (c : LB),rowsHeap rows j=some c→∃ d,c.c=.row d∧d.kind≠.intss
 | [],_,j,c,h=>by simp [rowsHeap] at h
 | p :: r,hf,j,c,h=>by
  simp only [flatRows,Bool.and_eq_true] at hf
  cases j with
  | zero =>
   simp only [rowsHeap,List.getElem?_cons_zero,Option.map_some,Option.some.injEq] at h
   subst h
   exact ⟨p.2,rfl,fun hk=>by rw [hk] at hf; simp at hf⟩
  | succ j=>exact flatRows_get hf.2 j c (by simpa [rowsHeap] using h)
mutual
theorem Rep.ren {w : World} {T : Nat→Prop} {β β' : Names} {f : Nat→Nat} (hf : ∀ l p,β l=some p→β' (f l)=some p) : ∀ (x : AV) (y:Value),Rep w T β x y→Rep w T β' (x.ren f) y
 | .any,_,_=>by simp [AV.ren,Rep]
 | .v x,y,h=>by simpa only [AV.ren,Rep] using h
 | .sl d,y,h=>by simpa only [AV.ren,Rep] using h
 | .own l n,y,h=>by
  simp only [AV.ren,Rep,OwnRep] at h ⊢
  rcases h with ⟨h1,h2⟩ | ⟨g,cap,h1,h2⟩
  ·exact .inl ⟨hf _ _ h1,h2⟩
  ·exact .inr ⟨g,cap,hf _ _ h1,h2⟩
 | .ptr l off,y,h=>by
  simp only [AV.ren,Rep] at h ⊢
  obtain ⟨g,cap,h1,h2⟩ := h
  exact ⟨g,cap,hf _ _ h1,h2⟩
 | .pel l e k off,y,h=>by
  simp only [AV.ren,Rep] at h ⊢
  obtain ⟨g,cap,h1,h2⟩ := h
  exact ⟨g,cap,hf _ _ h1,h2⟩
 | .ep xs,y,h=>by
  simp only [AV.ren,Rep] at h ⊢
  obtain ⟨ad,us,h1,h2,h3,h4⟩ := h
  exact ⟨ad,us,h1,h2,RepL.ren hf xs us h3,h4⟩
 | .agg xs,y,h=>by
  simp only [AV.ren,Rep] at h ⊢
  obtain ⟨ys,h1,h2⟩ := h
  exact ⟨ys,h1,RepL.ren hf xs _ h2⟩
 | .tup xs,y,h=>by
  simp only [AV.ren,Rep] at h ⊢
  obtain ⟨ys,h1,h2⟩ := h
  exact ⟨ys,h1,RepL.ren hf xs _ h2⟩
 | .fn k xs,y,h=>by
  simp only [AV.ren,Rep] at h ⊢
  obtain ⟨ys,h1,h2⟩ := h
  exact ⟨ys,h1,RepL.ren hf xs _ h2⟩
 | .g b x,y,h=>by
  simp only [AV.ren,Rep] at h ⊢
  exact ⟨fun e=>Rep.ren hf x y (h.1 e),h.2⟩
theorem RepL.ren {w : World} {T : Nat→Prop} {β β' : Names} {f : Nat→Nat} (hf : ∀ l p,β l=some p→β' (f l)=some p) : ∀ (xs : List AV) (ys : List Value),RepL w T β xs ys→RepL w T β' (AV.renL f xs) ys
 | [],[],_=>by simp [AV.renL,RepL]
 | x :: xs,y :: ys,h=>by
  simp only [RepL,AV.renL] at h ⊢
  exact ⟨Rep.ren hf x y h.1,RepL.ren hf xs ys h.2⟩
 | [],_ :: _,h=>by simp [RepL] at h
 | _ :: _,[],h=>by simp [RepL] at h
end
def Seen (β : Names) (vw : List Nat) (b:Nat) : Prop := ∃ l ∈ vw,∃ cap,β l=some (.blk b cap)
theorem normA_ok (h : Sat F β e s u a w) {k : Option DatK} {x y : AV} {c : Prop} {vw : List Nat} {v : Value} (hn : normA s k x=some (y,c,vw)) (hc : c) (hr : Rep w (Stab F β s w) β x v)
  {T : Nat→Prop} (hT : ∀ b,Stab F β s w b→T b) (hV : ∀ b,Seen β vw b→T b) : Rep w T noNames y v := by
 cases k with
 | none =>
  simp only [normA] at hn
  split at hn
  ·rename_i hl
   simp only [Option.some.injEq,Prod.mk.injEq] at hn
   obtain ⟨rfl,rfl,rfl⟩ := hn
   exact Rep.mono hT (fun _ _=>rfl) _ _ (by rw [hl]; simp) (hr.core hc)
  ·cases hn
 | some k =>
  simp only [normA] at hn
  split at hn
  ·rename_i d hx
   split at hn
   ·simp only [Option.some.injEq,Prod.mk.injEq] at hn
    obtain ⟨rfl,rfl,rfl⟩ := hn
    have := hr.core hc
    rw [hx] at this
    exact Rep.mono hT (fun _ _=>rfl) _ _ (by simp [AV.locs]) this
   ·cases hn
  ·rename_i hx
   simp only [Option.some.injEq,Prod.mk.injEq] at hn
   obtain ⟨rfl,rfl,rfl⟩ := hn
   have := hr.core hc
   rw [hx] at this
   simp only [Rep] at this ⊢
   subst this
   exact sl_of_nil (by cases k <;> rfl)
  ·rename_i l n hx
   split at hn
   ·rename_i ty d hsl
    split at hn
    ·simp only [Option.some.injEq,Prod.mk.injEq] at hn
     obtain ⟨rfl,rfl,rfl⟩ := hn
     have hcut : d=d.cut 0 n := by rw [hc.2,cut_all]
     replace hc := And.intro hc.1 (Nat.le_of_eq hc.2)
     rw [hcut]
     have := hr.core hc.1
     rw [hx] at this
     simp only [Rep] at this ⊢
     have hlen : (d.cut 0 n).len=n := by rw [Dat.cut_len _ (Nat.zero_le _) hc.2]; omega
     have hloc := h.loc l _ hsl
     simp only [LocOK,CellsOK] at hloc
     rcases hloc with ⟨b1,b2⟩ | ⟨g,cap,cur,b1,b2,b3,b4,b5,b6⟩
     ·rcases this with ⟨_,rfl,e3⟩ | ⟨g,cap,e1,_⟩
      ·rw [e3]; exact sl_of_nil hlen
      ·rw [b1] at e1; cases e1
     ·rcases this with ⟨e1,_⟩ | ⟨g',cap',e1,e2,e3⟩
      ·rw [b1] at e1; cases e1
      ·rw [b1] at e1
       simp only [Option.some.injEq,Bl.blk.injEq] at e1
       obtain ⟨rfl,rfl⟩ := e1
       rw [e3]
       have h1 : SlRep w T d (.slice (some ⟨g,0,none⟩) d.len cap) := sl_of_row (β := β) (hV g ⟨l,by simp,cap,b1⟩) b2 (b6.mono hT (fun _ _=>rfl)) b3 b4
       have h2 := SlRep.cut h1 (lo := 0) (hi := n) (Nat.zero_le _) hc.2
       have h3 : (if cap=0 then some (⟨g,0,none⟩ : Addr) else Option.map (fun x : Addr=>x.add (0 * d.esz)) (some ⟨g,0,none⟩))=some ⟨g,0,none⟩ := by
        simp [Addr.add]
       rw [h3,Nat.sub_zero,Nat.sub_zero] at h2
       exact h2
    ·cases hn
   ·cases hn
  ·cases hn
theorem normAL_ok (h : Sat F β e s u a w) : ∀ {ks : List (Option DatK)} {xs ys : List AV} {c : Prop} {vw : List Nat} {vs : List Value},normAL s ks xs=some (ys,c,vw)→c→RepL w (Stab F β s w) β xs vs →
  ∀ {T : Nat→Prop},(∀ b,Stab F β s w b→T b)→(∀ b,Seen β vw b→T b)→RepL w T noNames ys vs
 | [],[],ys,c,vw,vs,hn,hc,hr,T,hT,hV=>by
  simp only [normAL,Option.some.injEq,Prod.mk.injEq] at hn
  obtain ⟨rfl,rfl,rfl⟩ := hn
  cases vs with
  | nil=>simp [RepL]
  | cons _ _=>simp [RepL] at hr
 | k :: ks,x :: xs,ys,c,vw,vs,hn,hc,hr,T,hT,hV=>by
  simp only [normAL] at hn
  split at hn
  ·rename_i y c1 v1 ys' c2 v2 h1 h2
   simp only [Option.some.injEq,Prod.mk.injEq] at hn
   obtain ⟨rfl,rfl,rfl⟩ := hn
   cases vs with
   | nil=>simp [RepL] at hr
   | cons z zs =>
    simp only [RepL] at hr ⊢
    exact ⟨normA_ok h h1 hc.1 hr.1 hT (fun b ⟨l,hl,hb⟩=>hV b ⟨l,List.mem_append_left _ hl,hb⟩),
     normAL_ok h h2 hc.2 hr.2 hT (fun b ⟨l,hl,hb⟩=>hV b ⟨l,List.mem_append_right _ hl,hb⟩)⟩
  ·cases hn
 | [],_ :: _,_,_,_,_,hn,_,_,_,_,_=>by simp [normAL] at hn
 | _ :: _,[],_,_,_,_,hn,_,_,_,_,_=>by simp [normAL] at hn
def consB (β : Names) (l : Option Nat) : Option Nat :=
 match l with
 | none=>none
 | some l0=>match β l0 with | some (.blk g _)=>some g | _=>none
theorem normL_ok (h : Sat F β e s u a w) : ∀ {sg : List PK} {xs ys : List AV} {c : Prop} {vw : List Nat} {l : Option Nat} {vs : List Value},normL s sg xs=some (ys,c,vw,l)→c→RepL w (Stab F β s w) β xs vs →
  ∀ {T : Nat→Prop},(∀ b,Stab F β s w b→T b)→(∀ b,Seen β vw b→T b)→(∀ b,consB β l=some b→¬ T b)→ArgsRep w T sg ys vs (consB β l)
 | [],[],ys,c,vw,l,vs,hn,hc,hr,T,hT,hV,hC=>by
  simp only [normL,Option.some.injEq,Prod.mk.injEq] at hn
  obtain ⟨rfl,rfl,rfl,rfl⟩ := hn
  cases vs with
  | nil=>simp [ArgsRep,consB]
  | cons _ _=>simp [RepL] at hr
 | k :: ks,x :: xs,ys,c,vw,l,vs,hn,hc,hr,T,hT,hV,hC=>by
  simp only [normL] at hn
  split at hn
  ·rename_i y c1 v1 l1 ys' c2 v2 l2 h1 h2
   split at hn
   ·rename_i hcase
    simp only [Option.some.injEq,Prod.mk.injEq] at hn
    obtain ⟨rfl,rfl,rfl,rfl⟩ := hn
    cases vs with
    | nil=>simp [RepL] at hr
    | cons z zs =>
     simp only [RepL] at hr
     have hV1 : ∀ b,Seen β v1 b→T b := fun b ⟨l,hl,hb⟩=>hV b ⟨l,List.mem_append_left _ hl,hb⟩
     have hV2 : ∀ b,Seen β v2 b→T b := fun b ⟨l,hl,hb⟩=>hV b ⟨l,List.mem_append_right _ hl,hb⟩
     cases k with
     | c k t =>
      simp only [isC,if_true] at hC ⊢
      have hl2 : l2=none := by simpa [isC] using hcase
      subst hl2
      have rest := normL_ok h h2 hc.2 hr.2 hT hV2 (by simp [consB])
      simp only [ArgsRep]
      refine ⟨?_,by simpa [consB] using rest⟩
      simp only [normP] at h1
      split at h1
      ·rename_i hx
       simp only [Option.some.injEq,Prod.mk.injEq] at h1
       obtain ⟨rfl,rfl,rfl,rfl⟩ := h1
       have hx' := hr.1.core hc.1
       rw [hx] at hx'
       simp only [Rep] at hx'
       exact ⟨_,rfl,by cases k <;> rfl,.inl ⟨hx',by cases k <;> rfl,rfl⟩⟩
      ·rename_i l0 n hx
       split at h1
       ·rename_i ty d hsl
        split at h1
        ·rename_i hkt
         simp only [Option.some.injEq,Prod.mk.injEq] at h1
         obtain ⟨rfl,rfl,rfl,rfl⟩ := h1
         obtain ⟨hkk,rfl⟩ := hkt
         obtain ⟨hcc,rfl⟩ := hc.1
         have hx' := hr.1.core hcc
         rw [hx] at hx'
         simp only [Rep] at hx'
         refine ⟨_,rfl,hkk,?_⟩
         have hloc := h.loc l0 _ hsl
         simp only [LocOK,CellsOK] at hloc
         rcases hloc with ⟨b1,b2⟩ | ⟨g,cap,cur,b1,b2,b3,b4,b5,b6⟩
         ·rcases hx' with ⟨_,_,e3⟩ | ⟨g,cap,e1,_⟩
          ·exact .inl ⟨e3,b2,by simp [consB,b1]⟩
          ·rw [b1] at e1; cases e1
         ·rcases hx' with ⟨e1,_⟩ | ⟨g',cap',e1,e2,e3⟩
          ·rw [b1] at e1; cases e1
          ·rw [b1] at e1
           simp only [Option.some.injEq,Bl.blk.injEq] at e1
           obtain ⟨rfl,rfl⟩ := e1
           have hcb : consB β (some l0)=some g := by simp [consB,b1]
           exact .inr ⟨g,cap,cur,e3,hcb,(Array.getElem?_eq_some_iff.1 b2).1,hC g hcb,b2,b3,b4,b5,b6.mono hT (fun _ _=>rfl)⟩
        ·cases h1
       ·cases h1
      ·cases h1
     | o =>
      simp only [isC,Bool.false_eq_true,if_false] at hC ⊢
      simp only [normP,Option.map_eq_some_iff,Prod.mk.injEq] at h1
      obtain ⟨⟨y1,c1',v1'⟩,hh,rfl,rfl,rfl,_⟩ := h1
      simp only [ArgsRep]
      exact ⟨normA_ok h hh hc.1 hr.1 hT hV1,normL_ok h h2 hc.2 hr.2 hT hV2 hC⟩
     | s k =>
      simp only [isC,Bool.false_eq_true,if_false] at hC ⊢
      simp only [normP,Option.map_eq_some_iff,Prod.mk.injEq] at h1
      obtain ⟨⟨y1,c1',v1'⟩,hh,rfl,rfl,rfl,_⟩ := h1
      simp only [ArgsRep]
      exact ⟨normA_ok h hh hc.1 hr.1 hT hV1,normL_ok h h2 hc.2 hr.2 hT hV2 hC⟩
     | a ks' =>
      simp only [isC,Bool.false_eq_true,if_false] at hC ⊢
      simp only [normP] at h1
      split at h1
      ·rename_i xs' hx
       simp only [Option.map_eq_some_iff,Prod.mk.injEq] at h1
       obtain ⟨⟨y1,c1',v1'⟩,hh,rfl,rfl,rfl,_⟩ := h1
       simp only [ArgsRep]
       refine ⟨?_,normL_ok h h2 hc.2 hr.2 hT hV2 hC⟩
       have hx' := hr.1.core hc.1.1
       rw [hx] at hx'
       simp only [Rep] at hx' ⊢
       obtain ⟨arr,e1,e2⟩ := hx'
       exact ⟨arr,e1,normAL_ok h hh hc.1.2 e2 hT hV1⟩
      ·cases h1
   ·cases hn
  ·cases hn
 | [],_ :: _,_,_,_,_,_,hn,_,_,_,_,_,_=>by simp [normL] at hn
 | _ :: _,[],_,_,_,_,_,hn,_,_,_,_,_,_=>by simp [normL] at hn
end
end Go.Ab

namespace Go.Ab
open Go.RowKit
def Entr (P : Program) (f : FuncId) : Prop := ∃ fn, P.funcs[f]? = some fn∧fn.body.isSome=true∧(fn.name == "runtime.NumGoroutine")=false
theorem run_callFunc {P : Program} {f : FuncId} (h : Entr P f) (args : Array Value) (w : World) : (callFunc f args).run P w=.ok (.enter f args) w := by
 obtain ⟨fn,h1,h2,h3⟩ := h
 have h4 : fn.body≠none := by intro hb; rw [hb] at h2; cases h2
 have h5 : fn.name≠ "runtime.NumGoroutine" := by simpa using h3
 simp [callFunc,h1,h5,h4]
section
variable {F : Fr} {β : Names} {e : Nat→Option AV} {s : Heap} {u : Nat→Prop} {a : Act} {w : World} {P : Program} {o : Oper} {x : AV} {D : CD} {δ : Delta} {φ : Prop}
theorem run_resolve {yf : Operand} {ys : Array Operand} {f : Nat} {caps : Array Value} {ts : Array TypeId} (hE : Entr P f) (ho : o.op=.call { callee := .value yf,args := ys,argTypes := ts })
  (hc : a.eval yf=.func (.func f) #[] caps) : (execOp a.eval o).run P w=.ok (.enter f (ys.map a.eval++caps)) w := by
 unfold execOp
 simp [ho,resolve,hc,Deferred.ofValue,invoke,run_callFunc hE]
theorem nameRows_get (nm:Nat) (rows : List (TypeId × Dat)) : ∀ (n:Nat) (s : Heap) (k:Nat),upds s (nameRows nm rows n) k=(if ∃ j,j<n∧k=nm+1000 * j then rowsHeap rows ((k - nm) / 1000) else s k)
 | 0,s,k=>by simp [nameRows,upds]
 | n+1,s,k=>by
  simp only [nameRows]
  rw [upds_append]
  unfold updS
  by_cases h : k=nm+1000 * n
  ·rw [if_pos h,if_pos ⟨n,by omega,h⟩]
   congr 1
   omega
  ·rw [if_neg h,nameRows_get nm rows n s k]
   by_cases h2 : ∃ j,j<n∧k=nm+1000 * j
   ·rw [if_pos h2,if_pos]
    obtain ⟨j,h3,h4⟩ := h2
    exact ⟨j,by omega,h4⟩
   ·rw [if_neg h2,if_neg]
    rintro ⟨j,h3,h4⟩
    by_cases h5 : j=n
    ·subst h5; exact h h4
    ·exact h2 ⟨j,by omega,h4⟩
theorem nameRows_names (nm:Nat) (rows : List (TypeId × Dat)) : ∀ (n:Nat) (k:Nat),k ∈ (nameRows nm rows n).map (·.1)↔∃ j,j<n∧k=nm+1000 * j
 | 0,k=>by simp [nameRows]
 | n+1,k=>by
  simp only [nameRows,List.map_append,List.map_cons,List.map_nil,List.mem_append,nameRows_names nm rows n k,List.mem_singleton]
  constructor
  ·rintro (⟨j,h1,h2⟩ | h)
   ·exact ⟨j,by omega,h2⟩
   ·exact ⟨n,by omega,h⟩
  ·rintro ⟨j,h1,h2⟩
   by_cases h3 : j=n
   ·subst h3; exact .inr h2
   ·exact .inl ⟨j,by omega,h2⟩
theorem sat_call (h : Sat F β e s u a w) {nm : Nat} {l : Option Nat} {vw : List Nat} {w' : World} {β' : Names} {r : AV} {rows : List (TypeId × Dat)} {y : Value}
  (hfresh : ∀ j,j<rows.length→¬ u (nm+1000 * j))
  (hl : ∀ l0,l=some l0→∃ c,s l0=some c)
  (hres : vw=[] ∨ (r.plainR=true∧flatRows rows=true))
  (hp : PostF w (fun b=>Stab F β s w b ∨ Seen β vw b) (consB β l) w' β' r rows y) :
  ∃ β'',Sat F β'' e (upds s (killD l++nameRows nm rows rows.length)) (updu u (killD l++nameRows nm rows rows.length)) a w' ∧
   Rep w' (Stab F β'' (upds s (killD l++nameRows nm rows rows.length)) w') β'' (r.ren fun k=>nm+1000 * k) y := by
 -- the names behind the call
 let β'' : Names := fun k=>if ∃ j,j<rows.length∧k=nm+1000 * j then β' ((k - nm) / 1000) else β k
 have hs'' : ∀ k,upds s (killD l++nameRows nm rows rows.length) k=if ∃ j,j<rows.length∧k=nm+1000 * j then rowsHeap rows ((k - nm) / 1000) else if l=some k then none else s k := by
  intro k
  have : upds s (killD l++nameRows nm rows rows.length)=upds (upds s (killD l)) (nameRows nm rows rows.length) := by simp [upds,List.foldl_append]
  rw [this,nameRows_get]
  split
  ·rfl
  ·cases l with
   | none=>simp [killD,upds]
   | some l0 =>
    simp only [killD,upds,List.foldl_cons,List.foldl_nil,updS,Option.some.injEq]
    by_cases h2 : k=l0
    ·simp [h2]
    ·simp [h2,Ne.symm h2]
 have hu'' : ∀ k,updu u (killD l++nameRows nm rows rows.length) k↔(u k ∨ l=some k ∨ ∃ j,j<rows.length∧k=nm+1000 * j) := by
  intro k
  unfold updu
  rw [List.map_append,List.mem_append,nameRows_names]
  cases l with
  | none=>simp [killD]
  | some l0=>simp [killD,eq_comm]
 have hul : ∀ k,l=some k→u k := by
  intro k hk
  obtain ⟨c,hc⟩ := hl k hk
  have hloc := h.loc k c hc
  unfold LocOK at hloc
  cases hcc : c.c <;> simp only [hcc,CellsOK] at hloc
  ·obtain ⟨g,cap,arr,h1,_⟩ := hloc; exact h.dom _ _ h1
  ·rcases hloc with ⟨h1,_⟩ | ⟨g,cap,arr,h1,_⟩ <;> exact h.dom _ _ h1
 have hold : ∀ k,u k→¬ ∃ j,j<rows.length∧k=nm+1000 * j := by
  rintro k hk ⟨j,h1,rfl⟩
  exact hfresh j h1 hk
 have hβ : ∀ k p,β k=some p→β'' k=some p := by
  intro k p hk
  show (if _ then _ else _)=_
  rw [if_neg (hold k (h.dom k p hk))]
  exact hk
 have hcons : ∀ g,consB β l=some g→∃ l0 c0 cap,l=some l0∧s l0=some c0∧β l0=some (.blk g cap) := by
  intro g hg
  unfold consB at hg
  split at hg
  ·cases hg
  ·rename_i l0
   obtain ⟨c0,hc0⟩ := hl l0 rfl
   split at hg
   ·rename_i g' cap hb
    cases hg
    exact ⟨l0,c0,cap,rfl,hc0,hb⟩
   ·cases hg
 have hkeep : ∀ b,b<w.heap.size→¬ Live β s b→w'.heap[b]? = w.heap[b]? := by
  intro b hb hnl
  refine hp.keep b hb (fun hc => ?_)
  obtain ⟨l0,c0,cap,_,h1,h2⟩ := hcons b hc
  exact hnl ⟨l0,c0,cap,h1,h2⟩
 -- what is live behind the call
 have hlv : ∀ b,Live β'' (upds s (killD l++nameRows nm rows rows.length)) b→(∃ k c cap,rowsHeap rows k=some c∧β' k=some (.blk b cap)) ∨ (∃ k c cap,l≠some k∧s k=some c∧β k=some (.blk b cap)) := by
  rintro b ⟨k,c,cap,hk,hb⟩
  rw [hs''] at hk
  by_cases hj : ∃ j,j<rows.length∧k=nm+1000 * j
  ·rw [if_pos hj] at hk
   have hb' : β' ((k - nm) / 1000)=some (.blk b cap) := by
    have : β'' k=β' ((k - nm) / 1000) := by show (if _ then _ else _)=_; rw [if_pos hj]
    rw [← this]; exact hb
   exact .inl ⟨_,c,cap,hk,hb'⟩
  ·rw [if_neg hj] at hk
   have hb' : β k=some (.blk b cap) := by
    have : β'' k=β k := by show (if _ then _ else _)=_; rw [if_neg hj]
    rw [← this]; exact hb
   split at hk
   ·cases hk
   ·rename_i hne; exact .inr ⟨k,c,cap,hne,hk,hb'⟩
 have hlive : ∀ b,Live β'' (upds s (killD l++nameRows nm rows rows.length)) b→b<w.heap.size→Live β s b := by
  intro b hb hlt
  rcases hlv b hb with ⟨k,c,cap,h1,h2⟩ | ⟨k,c,cap,_,h1,h2⟩
  ·rcases hp.out k c b cap h1 h2 with h3 | h3
   ·obtain ⟨l0,c0,cap0,_,h4,h5⟩ := hcons b h3; exact ⟨l0,c0,cap0,h4,h5⟩
   ·omega
  ·exact ⟨k,c,cap,h1,h2⟩
 obtain ⟨hT,hw⟩ := h.grow (w' := w') (β' := β'') (s' := upds s (killD l++nameRows nm rows rows.length)) hp.size hkeep hlive
 -- rows of the callee's that were made
 have hrl : ∀ k c,rowsHeap rows k=some c→k<rows.length := by
  intro k c hk
  unfold rowsHeap at hk
  cases hh : rows[k]? with
  | none=>rw [hh] at hk; cases hk
  | some _=>exact (List.getElem?_eq_some_iff.1 hh).1
 have hrow : ∀ k c,rowsHeap rows k=some c→∃ j,j<rows.length∧nm+1000 * k=nm+1000 * j := fun k c hk=>⟨k,hrl k c hk,rfl⟩
 have hdiv : ∀ k,(nm+1000 * k - nm) / 1000=k := by intro k; omega
 have hβr : ∀ k p,β' k=some p→β'' (nm+1000 * k)=some p := by
  intro k p hk
  show (if _ then _ else _)=_
  rw [if_pos ⟨k,hp.dom k p hk,rfl⟩,hdiv]
  exact hk
 have hrlive : ∀ b,Live β' (rowsHeap rows) b→Live β'' (upds s (killD l++nameRows nm rows rows.length)) b := by
  rintro b ⟨k,c,cap,h1,h2⟩
  refine ⟨nm+1000 * k,c,cap,?_,hβr k _ h2⟩
  rw [hs'',if_pos (hrow k c h1),hdiv]
  exact h1
 -- no row that is still the caller's own is one of the callee's
 have hapart : ∀ k c cap g,l≠some k→s k=some c→β k=some (.blk g cap)→∀ k' c' cap',rowsHeap rows k' = some c'→β' k' = some (.blk g cap')→False := by
  intro k c cap g hne hk hb k' c' cap' hk' hb'
  rcases hp.out k' c' g cap' hk' hb' with h3 | h3
  ·obtain ⟨l0,c0,cap0,h0,h4,h5⟩ := hcons g h3
   have := h.inj k l0 c c0 g cap cap0 hk h4 hb h5
   subst this
   exact hne h0
  ·have := Live.lt h ⟨k,c,cap,hk,hb⟩
   omega
 have hCT : vw=[]→∀ b,CStab w (fun b=>Stab F β s w b ∨ Seen β vw b) (consB β l) w' β' (rowsHeap rows) b→Stab F β'' (upds s (killD l++nameRows nm rows rows.length)) w' b := by
  intro hv b hb
  obtain ⟨h1,h2⟩ := hb
  have hnoseen : ¬ Seen β vw b := by rw [hv]; rintro ⟨l,hl,_⟩; cases hl
  refine ⟨?_,fun hlv' => ?_⟩
  ·rcases h1 with (h1 | h1) | h1 | h1
   ·rcases h1.1 with h3 | h3 | h3
    ·exact .inl h3
    ·exact .inr (.inl h3)
    ·exact .inr (.inr ⟨h3.1,by have := hp.size; omega⟩)
   ·exact (hnoseen h1).elim
   ·obtain ⟨l0,c0,cap0,h0,h4,h5⟩ := hcons b h1
    rcases h.out l0 c0 b cap0 h4 h5 with h6 | h6
    ·exact .inr (.inl h6)
    ·exact .inr (.inr ⟨h6,by have := Live.lt h ⟨l0,c0,cap0,h4,h5⟩; have := hp.size; omega⟩)
   ·exact .inr (.inr ⟨by have := h.size; omega,h1.2⟩)
  ·rcases hlv b hlv' with ⟨k,c,cap,h3,h4⟩ | ⟨k,c,cap,hne,h3,h4⟩
   ·exact h2 ⟨k,c,cap,h3,h4⟩
   ·rcases h1 with (h1 | h1) | h1 | h1
    ·exact h1.2 ⟨k,c,cap,h3,h4⟩
    ·exact hnoseen h1
    ·obtain ⟨l0,c0,cap0,h0,h5,h6⟩ := hcons b h1
     have := h.inj k l0 c c0 b cap cap0 h3 h5 h4 h6
     subst this
     exact hne h0
    ·have := Live.lt h ⟨k,c,cap,h3,h4⟩
     omega
 refine ⟨β'',?_,?_⟩
 ·refine h.step hp.os hp.tape hp.output hp.size hkeep hβ ?_ hlive ?_ ?_ ?_
  ·intro k p hk
   rw [hu'']
   by_cases hj : ∃ j,j<rows.length∧k=nm+1000 * j
   ·exact .inr (.inr hj)
   ·have hb' : β k=some p := by
     have : β'' k=β k := by show (if _ then _ else _)=_; rw [if_neg hj]
     rw [← this]; exact hk
    exact .inl (h.dom k p hb')
  ·intro k c hk
   rw [hs''] at hk
   by_cases hj : ∃ j,j<rows.length∧k=nm+1000 * j
   ·rw [if_pos hj] at hk
    have hloc := hp.loc _ c hk
    obtain ⟨j,hj1,hj2⟩ := hj
    have hkj : (k - nm) / 1000=j := by omega
    rw [hkj] at hk hloc
    rw [hj2]
    -- the row under its new name
    unfold LocOK at hloc ⊢
    cases hcc : c.c with
    | fix xs =>
     exfalso
     unfold rowsHeap at hk
     cases hh : rows[j]? with
     | none=>rw [hh] at hk; cases hk
     | some q=>rw [hh] at hk; simp only [Option.map_some,Option.some.injEq] at hk; subst hk; cases hcc
    | row d =>
     rw [hcc] at hloc
     simp only [CellsOK] at hloc ⊢
     rcases hloc with ⟨h1,h2⟩ | ⟨g,cap,cur,h1,h2,h3,h4,h5,h6⟩
     ·exact .inl ⟨hβr _ _ h1,h2⟩
     ·refine .inr ⟨g,cap,cur,hβr _ _ h1,h2,h3,h4,h5,?_⟩
      rcases hres with hv | ⟨_,hfl⟩
      ·exact h6.mono (hCT hv) (fun _ _=>rfl)
      ·obtain ⟨d',e1,e2⟩ := flatRows_get hfl j c hk
       rw [hcc] at e1
       cases e1
       exact h6.flatT e2
   ·rw [if_neg hj] at hk
    split at hk
    ·cases hk
    ·rename_i hne
     refine CellsOK.mono hT hw hβ (fun g cap' hg => ?_) (h.loc k c hk)
     refine hp.keep g (Live.lt h ⟨k,c,cap',hk,hg⟩) (fun hc => ?_)
     obtain ⟨l0,c0,cap0,h0,h4,h5⟩ := hcons g hc
     have := h.inj k l0 c c0 g cap' cap0 hk h4 hg h5
     subst this
     exact hne h0
  ·intro k k' c1 c2 g cap1 cap2 hk hk' hb hb'
   rw [hs''] at hk hk'
   by_cases hj : ∃ j,j<rows.length∧k=nm+1000 * j <;> by_cases hj' : ∃ j,j<rows.length∧k' = nm+1000 * j
   ·rw [if_pos hj] at hk
    rw [if_pos hj'] at hk'
    have e1 : β'' k=β' ((k - nm) / 1000) := by show (if _ then _ else _)=_; rw [if_pos hj]
    have e2 : β'' k' = β' ((k' - nm) / 1000) := by show (if _ then _ else _)=_; rw [if_pos hj']
    rw [e1] at hb
    rw [e2] at hb'
    have := hp.inj _ _ c1 c2 g cap1 cap2 hk hk' hb hb'
    obtain ⟨j,h1,h2⟩ := hj
    obtain ⟨j',h1',h2'⟩ := hj'
    omega
   ·rw [if_pos hj] at hk
    rw [if_neg hj'] at hk'
    have e1 : β'' k=β' ((k - nm) / 1000) := by show (if _ then _ else _)=_; rw [if_pos hj]
    have e2 : β'' k' = β k' := by show (if _ then _ else _)=_; rw [if_neg hj']
    rw [e1] at hb
    rw [e2] at hb'
    split at hk'
    ·cases hk'
    ·rename_i hne; exact (hapart k' c2 cap2 g hne hk' hb' _ c1 cap1 hk hb).elim
   ·rw [if_neg hj] at hk
    rw [if_pos hj'] at hk'
    have e1 : β'' k=β k := by show (if _ then _ else _)=_; rw [if_neg hj]
    have e2 : β'' k' = β' ((k' - nm) / 1000) := by show (if _ then _ else _)=_; rw [if_pos hj']
    rw [e1] at hb
    rw [e2] at hb'
    split at hk
    ·cases hk
    ·rename_i hne; exact (hapart k c1 cap1 g hne hk hb _ c2 cap2 hk' hb').elim
   ·rw [if_neg hj] at hk
    rw [if_neg hj'] at hk'
    have e1 : β'' k=β k := by show (if _ then _ else _)=_; rw [if_neg hj]
    have e2 : β'' k' = β k' := by show (if _ then _ else _)=_; rw [if_neg hj']
    rw [e1] at hb
    rw [e2] at hb'
    split at hk
    ·cases hk
    ·split at hk'
     ·cases hk'
     ·exact h.inj k k' c1 c2 g cap1 cap2 hk hk' hb hb'
  ·intro k c g cap hk hb
   rcases hlv g ⟨k,c,cap,hk,hb⟩ with ⟨k',c',cap',h3,h4⟩ | ⟨k',c',cap',hne,h3,h4⟩
   ·rcases hp.out k' c' g cap' h3 h4 with h5 | h5
    ·obtain ⟨l0,c0,cap0,_,h6,h7⟩ := hcons g h5; exact h.out l0 c0 g cap0 h6 h7
    ·right; have := h.size; omega
   ·exact h.out k' c' g cap' h3 h4
 ·rcases hres with hv | ⟨hfree,h0⟩
  ·have h1 := Rep.mono (T' := Stab F β'' (upds s (killD l++nameRows nm rows rows.length)) w') (hCT hv) (fun b hb=>rfl) r y (fun l _ p hp=>hp) hp.rep
   exact Rep.ren hβr r y h1
  ·exact Rep.ren hβr r y (Rep.plainR r y hfree hp.rep)
end
end Go.Ab

namespace Go.Ab
open Go.RowKit
def blH (bl : List LB) : Heap := fun j=>bl[j]?
def consS (β : Names) (ks : List Nat) (b:Nat) : Prop := ∃ k ∈ ks,∃ cap,β k=some (.blk b cap)
def killsD (ks : List Nat) : Delta := ks.map fun k=>(k,none)
def nameBl (nm:Nat) (bl : List LB) : Nat→Delta
 | 0 => []
 | k+1=>nameBl nm bl k++[(nm+1000 * k,blH bl k)]
def CStabG (w : World) (T C : Nat→Prop) (w' : World) (β' : Names) (s' : Heap) (b:Nat) : Prop :=
 (T b ∨ C b ∨ (w.heap.size≤b∧b<w'.heap.size))∧¬ Live β' s' b
structure PostG (w : World) (T C : Nat→Prop) (w' : World) (β' : Names) (r : AV) (bl : List LB) (y:Value) : Prop where
 os : w'.os=w.os
 tape : w'.tape=w.tape
 output : w'.output=w.output
 size : w.heap.size≤w'.heap.size
 keep : ∀ b,b<w.heap.size→¬ C b→w'.heap[b]? = w.heap[b]?
 rep : Rep w' (CStabG w T C w' β' (blH bl)) β' r y
 loc : ∀ l c,blH bl l=some c→LocOK w' (CStabG w T C w' β' (blH bl)) β' l c
 inj : ∀ l l' c c' g cap cap',blH bl l=some c→blH bl l' = some c'→β' l=some (.blk g cap)→β' l' = some (.blk g cap')→l=l'
 out : ∀ l c g cap,blH bl l=some c→β' l=some (.blk g cap)→C g ∨ w.heap.size≤g
 dom : ∀ l p,β' l=some p→l<bl.length
 plain : ∀ j c xs,blH bl j=some c→c.c=.fix xs→AV.locsL xs=[]
section
variable {F : Fr} {β : Names} {e : Nat→Option AV} {s : Heap} {u : Nat→Prop} {a : Act} {w : World} {P : Program} {o : Oper} {x : AV} {D : CD} {δ : Delta} {φ : Prop}
theorem killsD_get : ∀ (ks : List Nat) (s : Heap) (k:Nat),upds s (killsD ks) k=if k ∈ ks then none else s k
 | [],s,k=>by simp [killsD,upds]
 | l :: ks,s,k=>by
  have : upds s (killsD (l :: ks))=upds (updS s l none) (killsD ks) := rfl
  rw [this,killsD_get ks]
  by_cases h1 : k ∈ ks
  ·simp [h1]
  ·by_cases h2 : k=l
   ·simp [h2,updS]
   ·simp [h1,h2,updS]
theorem nameBl_get (nm:Nat) (rows : List LB) : ∀ (n:Nat) (s : Heap) (k:Nat),upds s (nameBl nm rows n) k=(if ∃ j,j<n∧k=nm+1000 * j then blH rows ((k - nm) / 1000) else s k)
 | 0,s,k=>by simp [nameBl,upds]
 | n+1,s,k=>by
  simp only [nameBl]
  rw [upds_append]
  unfold updS
  by_cases h : k=nm+1000 * n
  ·rw [if_pos h,if_pos ⟨n,by omega,h⟩]
   congr 1
   omega
  ·rw [if_neg h,nameBl_get nm rows n s k]
   by_cases h2 : ∃ j,j<n∧k=nm+1000 * j
   ·rw [if_pos h2,if_pos]
    obtain ⟨j,h3,h4⟩ := h2
    exact ⟨j,by omega,h4⟩
   ·rw [if_neg h2,if_neg]
    rintro ⟨j,h3,h4⟩
    by_cases h5 : j=n
    ·subst h5; exact h h4
    ·exact h2 ⟨j,by omega,h4⟩
theorem nameBl_names (nm:Nat) (rows : List LB) : ∀ (n:Nat) (k:Nat),k ∈ (nameBl nm rows n).map (·.1)↔∃ j,j<n∧k=nm+1000 * j
 | 0,k=>by simp [nameBl]
 | n+1,k=>by
  simp only [nameBl,List.map_append,List.map_cons,List.map_nil,List.mem_append,nameBl_names nm rows n k,List.mem_singleton]
  constructor
  ·rintro (⟨j,h1,h2⟩ | h)
   ·exact ⟨j,by omega,h2⟩
   ·exact ⟨n,by omega,h⟩
  ·rintro ⟨j,h1,h2⟩
   by_cases h3 : j=n
   ·subst h3; exact .inr h2
   ·exact .inl ⟨j,by omega,h2⟩
theorem sat_callG (h : Sat F β e s u a w) {nm : Nat} {ks : List Nat} {w' : World} {β' : Names} {r : AV} {rows : List LB} {y : Value}
  (hfresh : ∀ j,j<rows.length→¬ u (nm+1000 * j))
  (hl : ∀ l0 ∈ ks,∃ c,s l0=some c)
  (hp : PostG w (Stab F β s w) (consS β ks) w' β' r rows y) :
  ∃ β'',Sat F β'' e (upds s (killsD ks++nameBl nm rows rows.length)) (updu u (killsD ks++nameBl nm rows rows.length)) a w' ∧
   Rep w' (Stab F β'' (upds s (killsD ks++nameBl nm rows rows.length)) w') β' r y ∧
   (∀ k p,β k=some p→β'' k=some p)∧(∀ k p,β' k=some p→β'' (nm+1000 * k)=some p) := by
 -- the names behind the call
 let β'' : Names := fun k=>if ∃ j,j<rows.length∧k=nm+1000 * j then β' ((k - nm) / 1000) else β k
 have hs'' : ∀ k,upds s (killsD ks++nameBl nm rows rows.length) k=if ∃ j,j<rows.length∧k=nm+1000 * j then blH rows ((k - nm) / 1000) else if k ∈ ks then none else s k := by
  intro k
  have : upds s (killsD ks++nameBl nm rows rows.length)=upds (upds s (killsD ks)) (nameBl nm rows rows.length) := by simp [upds,List.foldl_append]
  rw [this,nameBl_get,killsD_get]
 have hu'' : ∀ k,updu u (killsD ks++nameBl nm rows rows.length) k↔(u k ∨ k ∈ ks ∨ ∃ j,j<rows.length∧k=nm+1000 * j) := by
  intro k
  unfold updu
  rw [List.map_append,List.mem_append,nameBl_names]
  simp [killsD]
 have hul : ∀ k,k ∈ ks→u k := by
  intro k hk
  obtain ⟨c,hc⟩ := hl k hk
  have hloc := h.loc k c hc
  unfold LocOK at hloc
  cases hcc : c.c <;> simp only [hcc,CellsOK] at hloc
  ·obtain ⟨g,cap,arr,h1,_⟩ := hloc; exact h.dom _ _ h1
  ·rcases hloc with ⟨h1,_⟩ | ⟨g,cap,arr,h1,_⟩ <;> exact h.dom _ _ h1
 have hold : ∀ k,u k→¬ ∃ j,j<rows.length∧k=nm+1000 * j := by
  rintro k hk ⟨j,h1,rfl⟩
  exact hfresh j h1 hk
 have hβ : ∀ k p,β k=some p→β'' k=some p := by
  intro k p hk
  show (if _ then _ else _)=_
  rw [if_neg (hold k (h.dom k p hk))]
  exact hk
 have hcons : ∀ g,consS β ks g→∃ l0 c0 cap,l0 ∈ ks∧s l0=some c0∧β l0=some (.blk g cap) := by
  rintro g ⟨l0,hk,cap,hb⟩
  obtain ⟨c0,hc0⟩ := hl l0 hk
  exact ⟨l0,c0,cap,hk,hc0,hb⟩
 have hkeep : ∀ b,b<w.heap.size→¬ Live β s b→w'.heap[b]? = w.heap[b]? := by
  intro b hb hnl
  refine hp.keep b hb (fun hc => ?_)
  obtain ⟨l0,c0,cap,_,h1,h2⟩ := hcons b hc
  exact hnl ⟨l0,c0,cap,h1,h2⟩
 -- what is live behind the call
 have hlv : ∀ b,Live β'' (upds s (killsD ks++nameBl nm rows rows.length)) b→(∃ k c cap,blH rows k=some c∧β' k=some (.blk b cap)) ∨ (∃ k c cap,k ∉ ks∧s k=some c∧β k=some (.blk b cap)) := by
  rintro b ⟨k,c,cap,hk,hb⟩
  rw [hs''] at hk
  by_cases hj : ∃ j,j<rows.length∧k=nm+1000 * j
  ·rw [if_pos hj] at hk
   have hb' : β' ((k - nm) / 1000)=some (.blk b cap) := by
    have : β'' k=β' ((k - nm) / 1000) := by show (if _ then _ else _)=_; rw [if_pos hj]
    rw [← this]; exact hb
   exact .inl ⟨_,c,cap,hk,hb'⟩
  ·rw [if_neg hj] at hk
   have hb' : β k=some (.blk b cap) := by
    have : β'' k=β k := by show (if _ then _ else _)=_; rw [if_neg hj]
    rw [← this]; exact hb
   split at hk
   ·cases hk
   ·rename_i hne; exact .inr ⟨k,c,cap,hne,hk,hb'⟩
 have hlive : ∀ b,Live β'' (upds s (killsD ks++nameBl nm rows rows.length)) b→b<w.heap.size→Live β s b := by
  intro b hb hlt
  rcases hlv b hb with ⟨k,c,cap,h1,h2⟩ | ⟨k,c,cap,_,h1,h2⟩
  ·rcases hp.out k c b cap h1 h2 with h3 | h3
   ·obtain ⟨l0,c0,cap0,_,h4,h5⟩ := hcons b h3; exact ⟨l0,c0,cap0,h4,h5⟩
   ·omega
  ·exact ⟨k,c,cap,h1,h2⟩
 obtain ⟨hT,hw⟩ := h.grow (w' := w') (β' := β'') (s' := upds s (killsD ks++nameBl nm rows rows.length)) hp.size hkeep hlive
 -- rows of the callee's that were made
 have hrl : ∀ k c,blH rows k=some c→k<rows.length := by
  intro k c hk
  exact (List.getElem?_eq_some_iff.1 hk).1
 have hrow : ∀ k c,blH rows k=some c→∃ j,j<rows.length∧nm+1000 * k=nm+1000 * j := fun k c hk=>⟨k,hrl k c hk,rfl⟩
 have hdiv : ∀ k,(nm+1000 * k - nm) / 1000=k := by intro k; omega
 have hβr : ∀ k p,β' k=some p→β'' (nm+1000 * k)=some p := by
  intro k p hk
  show (if _ then _ else _)=_
  rw [if_pos ⟨k,hp.dom k p hk,rfl⟩,hdiv]
  exact hk
 have hrlive : ∀ b,Live β' (blH rows) b→Live β'' (upds s (killsD ks++nameBl nm rows rows.length)) b := by
  rintro b ⟨k,c,cap,h1,h2⟩
  refine ⟨nm+1000 * k,c,cap,?_,hβr k _ h2⟩
  rw [hs'',if_pos (hrow k c h1),hdiv]
  exact h1
 -- no row that is still the caller's own is one of the callee's
 have hapart : ∀ k c cap g,k ∉ ks→s k=some c→β k=some (.blk g cap)→∀ k' c' cap',blH rows k' = some c'→β' k' = some (.blk g cap')→False := by
  intro k c cap g hne hk hb k' c' cap' hk' hb'
  rcases hp.out k' c' g cap' hk' hb' with h3 | h3
  ·obtain ⟨l0,c0,cap0,h0,h4,h5⟩ := hcons g h3
   have := h.inj k l0 c c0 g cap cap0 hk h4 hb h5
   subst this
   exact hne h0
  ·have := Live.lt h ⟨k,c,cap,hk,hb⟩
   omega
 have hCT : ∀ b,CStabG w (Stab F β s w) (consS β ks) w' β' (blH rows) b→Stab F β'' (upds s (killsD ks++nameBl nm rows rows.length)) w' b := by
  intro b hb
  obtain ⟨h1,h2⟩ := hb
  refine ⟨?_,fun hlv' => ?_⟩
  ·rcases h1 with h1 | h1 | h1
   ·rcases h1.1 with h3 | h3 | h3
    ·exact .inl h3
    ·exact .inr (.inl h3)
    ·exact .inr (.inr ⟨h3.1,by have := hp.size; omega⟩)
   ·obtain ⟨l0,c0,cap0,h0,h4,h5⟩ := hcons b h1
    rcases h.out l0 c0 b cap0 h4 h5 with h6 | h6
    ·exact .inr (.inl h6)
    ·exact .inr (.inr ⟨h6,by have := Live.lt h ⟨l0,c0,cap0,h4,h5⟩; have := hp.size; omega⟩)
   ·exact .inr (.inr ⟨by have := h.size; omega,h1.2⟩)
  ·rcases hlv b hlv' with ⟨k,c,cap,h3,h4⟩ | ⟨k,c,cap,hne,h3,h4⟩
   ·exact h2 ⟨k,c,cap,h3,h4⟩
   ·rcases h1 with h1 | h1 | h1
    ·exact h1.2 ⟨k,c,cap,h3,h4⟩
    ·obtain ⟨l0,c0,cap0,h0,h5,h6⟩ := hcons b h1
     have := h.inj k l0 c c0 b cap cap0 h3 h5 h4 h6
     subst this
     exact hne h0
    ·have := Live.lt h ⟨k,c,cap,h3,h4⟩
     omega
 refine ⟨β'',?_,?_,hβ,hβr⟩
 ·refine h.step hp.os hp.tape hp.output hp.size hkeep hβ ?_ hlive ?_ ?_ ?_
  ·intro k p hk
   rw [hu'']
   by_cases hj : ∃ j,j<rows.length∧k=nm+1000 * j
   ·exact .inr (.inr hj)
   ·have hb' : β k=some p := by
     have : β'' k=β k := by show (if _ then _ else _)=_; rw [if_neg hj]
     rw [← this]; exact hk
    exact .inl (h.dom k p hb')
  ·intro k c hk
   rw [hs''] at hk
   by_cases hj : ∃ j,j<rows.length∧k=nm+1000 * j
   ·rw [if_pos hj] at hk
    have hloc := hp.loc _ c hk
    obtain ⟨j,hj1,hj2⟩ := hj
    have hkj : (k - nm) / 1000=j := by omega
    rw [hkj] at hk hloc
    rw [hj2]
    -- the row under its new name
    unfold LocOK at hloc ⊢
    cases hcc : c.c with
    | fix xs =>
     have hpl := hp.plain j c xs hk hcc
     rw [hcc] at hloc
     simp only [CellsOK] at hloc ⊢
     obtain ⟨g,cap,arr,h1,h2,h3⟩ := hloc
     exact ⟨g,cap,arr,hβr _ _ h1,h2,RepL.mono hCT (fun _ _=>rfl) _ _ (by rw [hpl]; simp) h3⟩
    | row d =>
     rw [hcc] at hloc
     simp only [CellsOK] at hloc ⊢
     rcases hloc with ⟨h1,h2⟩ | ⟨g,cap,cur,h1,h2,h3,h4,h5,h6⟩
     ·exact .inl ⟨hβr _ _ h1,h2⟩
     ·exact .inr ⟨g,cap,cur,hβr _ _ h1,h2,h3,h4,h5,h6.mono hCT (fun _ _=>rfl)⟩
   ·rw [if_neg hj] at hk
    split at hk
    ·cases hk
    ·rename_i hne
     refine CellsOK.mono hT hw hβ (fun g cap' hg => ?_) (h.loc k c hk)
     refine hp.keep g (Live.lt h ⟨k,c,cap',hk,hg⟩) (fun hc => ?_)
     obtain ⟨l0,c0,cap0,h0,h4,h5⟩ := hcons g hc
     have := h.inj k l0 c c0 g cap' cap0 hk h4 hg h5
     subst this
     exact hne h0
  ·intro k k' c1 c2 g cap1 cap2 hk hk' hb hb'
   rw [hs''] at hk hk'
   by_cases hj : ∃ j,j<rows.length∧k=nm+1000 * j <;> by_cases hj' : ∃ j,j<rows.length∧k' = nm+1000 * j
   ·rw [if_pos hj] at hk
    rw [if_pos hj'] at hk'
    have e1 : β'' k=β' ((k - nm) / 1000) := by show (if _ then _ else _)=_; rw [if_pos hj]
    have e2 : β'' k' = β' ((k' - nm) / 1000) := by show (if _ then _ else _)=_; rw [if_pos hj']
    rw [e1] at hb
    rw [e2] at hb'
    have := hp.inj _ _ c1 c2 g cap1 cap2 hk hk' hb hb'
    obtain ⟨j,h1,h2⟩ := hj
    obtain ⟨j',h1',h2'⟩ := hj'
    omega
   ·rw [if_pos hj] at hk
    rw [if_neg hj'] at hk'
    have e1 : β'' k=β' ((k - nm) / 1000) := by show (if _ then _ else _)=_; rw [if_pos hj]
    have e2 : β'' k' = β k' := by show (if _ then _ else _)=_; rw [if_neg hj']
    rw [e1] at hb
    rw [e2] at hb'
    split at hk'
    ·cases hk'
    ·rename_i hne; exact (hapart k' c2 cap2 g hne hk' hb' _ c1 cap1 hk hb).elim
   ·rw [if_neg hj] at hk
    rw [if_pos hj'] at hk'
    have e1 : β'' k=β k := by show (if _ then _ else _)=_; rw [if_neg hj]
    have e2 : β'' k' = β' ((k' - nm) / 1000) := by show (if _ then _ else _)=_; rw [if_pos hj']
    rw [e1] at hb
    rw [e2] at hb'
    split at hk
    ·cases hk
    ·rename_i hne; exact (hapart k c1 cap1 g hne hk hb _ c2 cap2 hk' hb').elim
   ·rw [if_neg hj] at hk
    rw [if_neg hj'] at hk'
    have e1 : β'' k=β k := by show (if _ then _ else _)=_; rw [if_neg hj]
    have e2 : β'' k' = β k' := by show (if _ then _ else _)=_; rw [if_neg hj']
    rw [e1] at hb
    rw [e2] at hb'
    split at hk
    ·cases hk
    ·split at hk'
     ·cases hk'
     ·exact h.inj k k' c1 c2 g cap1 cap2 hk hk' hb hb'
  ·intro k c g cap hk hb
   rcases hlv g ⟨k,c,cap,hk,hb⟩ with ⟨k',c',cap',h3,h4⟩ | ⟨k',c',cap',hne,h3,h4⟩
   ·rcases hp.out k' c' g cap' h3 h4 with h5 | h5
    ·obtain ⟨l0,c0,cap0,_,h6,h7⟩ := hcons g h5; exact h.out l0 c0 g cap0 h6 h7
    ·right; have := h.size; omega
   ·exact h.out k' c' g cap' h3 h4
 ·exact Rep.mono (T' := Stab F β'' (upds s (killsD ks++nameBl nm rows rows.length)) w') hCT (fun b hb=>rfl) r y (fun l _ p hp=>hp) hp.rep
end
end Go.Ab

namespace Go.Ab
open Go.RowKit
def PtrOK (w : World) (T : Nat→Prop) (bC : Option Nat) : Option TypeId→List AV→List Value→Option Nat→Prop
 | none,fx,pv,og=>fx=[]∧pv=[]∧og=none
 | some t,fx,pv,og => ∃ g arr,pv=[.pointer (some ⟨g,0,none⟩)]∧og=some g∧¬ T g∧bC≠some g∧w.heap[g]? = some (.cells arr t (0,0))∧AV.locsL fx=[]∧RepL w T noNames fx arr.toList
def fullB (pt : Option TypeId) (fx : List AV) (bl : List LB) : List LB :=
 match pt with
 | none=>bl
 | some t=>⟨t,.fix fx⟩ :: bl
abbrev RelS := List AV→List AV→AV→List LB→List AV→Prop
def RelOK (P : Program) (f : FuncId) (pt : Option TypeId) (sig : List PK) (pre : List AV→List AV→Prop) (R : RelS) : Prop :=
 ∀ args fx,pre args fx→∀ (w : World) (T : Nat→Prop) (pv vals : List Value) (bC og : Option Nat),(∀ b,T b→b<w.heap.size)→GLB w T→PtrOK w T bC pt fx pv og→ArgsRep w T sig args vals bC →
  Calls P f (pv++vals).toArray w fun en w' => ∃ y β' r bl fx',en=.returned y∧R args fx r bl fx' ∧
   PostG w T (fun b=>bC=some b ∨ og=some b) w' β' r (fullB pt fx' bl) y∧∀ g,og=some g→∃ cap,β' 0=some (.blk g cap)
def blD (nm:Nat) : Nat→List LB→Delta
 | _,[] => []
 | j,c :: r=>(nm+1000 * j,some c) :: blD nm (j+1) r
def relD (pt : Option (TypeId × Nat)) (l : Option Nat) (nm:Nat) (fx : List AV) (bl : List LB) : Delta :=
 match pt with
 | none=>killD l++blD nm 0 bl
 | some (t,l0)=>killD l++(nm,none) :: blD nm 1 bl++[(l0,some ⟨t,.fix fx⟩)]
def relN (nm:Nat) (k:Nat) : Nat := nm+1000 * k
def freshN (u : List Nat) (nm:Nat) (n:Nat) : Bool := (List.range n).all fun j => !u.contains (nm+1000 * j)
def ptrF (pt : Option TypeId) (s : Heap) (xs : List AV) : Option (List AV × List AV × Option (TypeId × Nat) × Prop) :=
 match pt with
 | none=>some ([],xs,none,True)
 | some t =>
  match xs with
  | x :: r =>
   match x.core with
   | .ptr l 0 =>
    match s l with
    | some ⟨t',.fix fx⟩=>if t' = t∧AV.locsL fx=[] then some (fx,r,some (t,l),x.cond) else none
    | _=>none
   | _=>none
  | _=>none
section
variable {F : Fr} {β : Names} {e : Nat→Option AV} {s : Heap} {u : Nat→Prop} {a : Act} {w : World} {P : Program} {o : Oper} {x : AV} {D : CD} {δ : Delta} {φ : Prop}
theorem blD_get (nm:Nat) : ∀ (bl : List LB) (j:Nat) (s : Heap) (k:Nat),upds s (blD nm j bl) k=if ∃ i,i<bl.length∧k=nm+1000 * (j+i) then blH bl ((k - nm) / 1000 - j) else s k
 | [],j,s,k=>by simp [blD,upds]
 | c :: bl,j,s,k=>by
  have h0 : upds s (blD nm j (c :: bl))=upds (updS s (nm+1000 * j) (some c)) (blD nm (j+1) bl) := rfl
  rw [h0,blD_get nm bl (j+1)]
  by_cases h1 : ∃ i,i<bl.length∧k=nm+1000 * (j+1+i)
  ·rw [if_pos h1]
   obtain ⟨i,h2,h3⟩ := h1
   rw [if_pos ⟨i+1,by simp; omega,by omega⟩]
   have e1 : (k - nm) / 1000 - (j+1)=i := by omega
   have e2 : (k - nm) / 1000 - j=i+1 := by omega
   rw [e1,e2]; simp [blH]
  ·rw [if_neg h1]
   by_cases h2 : k=nm+1000 * j
   ·rw [if_pos ⟨0,by simp,by omega⟩]
    have e2 : (k - nm) / 1000 - j=0 := by omega
    rw [e2]; simp [updS,h2,blH]
   ·rw [if_neg]
    ·simp [updS,h2]
    ·rintro ⟨i,h3,h4⟩
     cases i with
     | zero=>exact h2 (by omega)
     | succ i=>exact h1 ⟨i,by simpa using h3,by omega⟩
theorem blD_names (nm:Nat) : ∀ (bl : List LB) (j k:Nat),k ∈ (blD nm j bl).map (·.1)↔∃ i,i<bl.length∧k=nm+1000 * (j+i)
 | [],j,k=>by simp [blD]
 | c :: bl,j,k=>by
  simp only [blD,List.map_cons,List.mem_cons,blD_names nm bl (j+1) k]
  constructor
  ·rintro (h | ⟨i,h1,h2⟩)
   ·exact ⟨0,by simp,by omega⟩
   ·exact ⟨i+1,by simp; omega,by omega⟩
  ·rintro ⟨i,h1,h2⟩
   cases i with
   | zero=>left; omega
   | succ i=>right; exact ⟨i,by simpa using h1,by omega⟩
theorem Sat.alias (h : Sat F β e s u a w) {l0 nm : Nat} {t : TypeId} {xs : List AV} {g cap cap0 : Nat} (h1 : s l0=none) (h2 : s nm=some ⟨t,.fix xs⟩) (hb : β l0=some (.blk g cap)) (hb0 : β nm=some (.blk g cap0)) :
  Sat F β e (updS (updS s nm none) l0 (some ⟨t,.fix xs⟩)) u a w∧Stab F β (updS (updS s nm none) l0 (some ⟨t,.fix xs⟩)) w=Stab F β s w := by
 have hne : l0≠nm := by intro h0; rw [h0,h2] at h1; cases h1
 have hget : ∀ k c',updS (updS s nm none) l0 (some ⟨t,.fix xs⟩) k=some c'→(k=l0∧c' = ⟨t,.fix xs⟩) ∨ (k≠l0∧k≠nm∧s k=some c') := by
  intro k c' hk
  unfold updS at hk
  by_cases e1 : k=l0
  ·rw [if_pos e1] at hk; cases hk; exact .inl ⟨e1,rfl⟩
  ·rw [if_neg e1] at hk
   by_cases e2 : k=nm
   ·rw [if_pos e2] at hk; cases hk
   ·rw [if_neg e2] at hk; exact .inr ⟨e1,e2,hk⟩
 have hlive : ∀ b,Live β (updS (updS s nm none) l0 (some ⟨t,.fix xs⟩)) b↔Live β s b := by
  intro b
  constructor
  ·rintro ⟨k,c',cap,hk,hb'⟩
   rcases hget k c' hk with ⟨rfl,rfl⟩ | ⟨_,_,h3⟩
   ·rw [hb] at hb'
    simp only [Option.some.injEq,Bl.blk.injEq] at hb'
    exact ⟨nm,_,cap0,h2,by rw [hb0,hb'.1]⟩
   ·exact ⟨k,c',cap,h3,hb'⟩
  ·rintro ⟨k,c',cap',hk,hb'⟩
   by_cases e1 : k=nm
   ·subst e1
    rw [hb0] at hb'
    simp only [Option.some.injEq,Bl.blk.injEq] at hb'
    exact ⟨l0,⟨t,.fix xs⟩,cap,by simp [updS],by rw [hb,hb'.1]⟩
   ·have e2 : k≠l0 := by intro h0; rw [h0,h1] at hk; cases hk
    exact ⟨k,c',cap',by simp [updS,e1,e2,hk],hb'⟩
 have hst : Stab F β (updS (updS s nm none) l0 (some ⟨t,.fix xs⟩)) w=Stab F β s w := by
  funext b
  simp only [Stab,hlive]
 refine ⟨⟨h.os,h.tape,h.output,h.size,h.old,h.dom,?_,?_,?_,?_,h.nt,h.defers,h.pin⟩,hst⟩
 ·intro k c' hk
  rw [hst]
  rcases hget k c' hk with ⟨rfl,rfl⟩ | ⟨_,_,h3⟩
  ·have := h.loc nm _ h2
   simp only [LocOK,CellsOK] at this ⊢
   obtain ⟨g',cap',arr,e1,e2,e3⟩ := this
   rw [hb0] at e1
   simp only [Option.some.injEq,Bl.blk.injEq] at e1
   exact ⟨g,cap,arr,hb,by rw [e1.1]; exact e2,e3⟩
  ·exact h.loc k c' h3
 ·intro k k' c1 c2 g1 cap1 cap2 hk hk' hb1 hb2
  rcases hget k c1 hk with ⟨rfl,rfl⟩ | ⟨e1,e2,h3⟩ <;> rcases hget k' c2 hk' with ⟨rfl,rfl⟩ | ⟨e1',e2',h3'⟩
  ·rfl
  ·rw [hb] at hb1
   simp only [Option.some.injEq,Bl.blk.injEq] at hb1
   exact absurd (h.inj nm k' _ c2 g1 cap0 cap2 h2 h3' (by rw [hb0,hb1.1]) hb2) (Ne.symm e2')
  ·rw [hb] at hb2
   simp only [Option.some.injEq,Bl.blk.injEq] at hb2
   exact absurd (h.inj k nm c1 _ g1 cap1 cap0 h3 h2 hb1 (by rw [hb0,hb2.1])) e2
  ·exact h.inj k k' c1 c2 g1 cap1 cap2 h3 h3' hb1 hb2
 ·intro k c' g1 cap1 hk hb1
  rcases hget k c' hk with ⟨rfl,rfl⟩ | ⟨_,_,h3⟩
  ·rw [hb] at hb1
   simp only [Option.some.injEq,Bl.blk.injEq] at hb1
   exact h.out nm _ g1 cap0 h2 (by rw [hb0,hb1.1])
  ·exact h.out k c' g1 cap1 h3 hb1
 ·intro t x hx
  rw [hst]
  exact h.slots t x hx
end
end Go.Ab

namespace Go.Ab
open Go.RowKit
def ptrR (pg : List AV→List AV→Option (AV × List AV × Prop)) : RelS := fun args fx r bl fx'=>bl=[]∧∃ φ,pg args fx=some (r,fx',φ)
def ptrPre (pg : List AV→List AV→Option (AV × List AV × Prop)) : List AV→List AV→Prop := fun args fx => ∃ r fx' φ,pg args fx=some (r,fx',φ)∧φ
def FnX (P : Program) (f : FuncId) (fs : FnS) : Prop :=
 match fs.pt with
 | none=>FnOK P f fs
 | some t=>RelOK P f (some t) fs.sig (ptrPre fs.pg) (ptrR fs.pg)
def ptrCallF (s : Heap) (nm:Nat) (fs : FnS) (t : TypeId) (xs : List AV) : Res :=
 match ptrF (some t) s xs with
 | some (fx,zx,some (_,l),c0) =>
  match normL s fs.sig zx with
  | some (zs,cz,[],none) =>
   match fs.pg zs fx with
   | some (r,fx',φ)=>if r.locs=[]∧AV.locsL fx' = [] then some (r,[(nm,none),(l,some ⟨t,.fix fx'⟩)],c0∧cz∧φ) else none
   | none=>none
  | _=>none
 | _=>none
section
variable {F : Fr} {β : Names} {e : Nat→Option AV} {s : Heap} {u : Nat→Prop} {a : Act} {w : World} {P : Program} {o : Oper} {x : AV} {D : CD} {δ : Delta} {φ : Prop}
theorem run_pcall {f : FuncId} {fs : FnS} {t : TypeId} (hr : RelOK P f (some t) fs.sig (ptrPre fs.pg) (ptrR fs.pg)) (hE : Entr P f) (h : Sat F β e s u a w) {nm : Nat} {yf : Operand} {ys : Array Operand} {ts : Array TypeId} {cs : Array Value} {xs : List AV}
  (ho : o.op=.call { callee := .value yf,args := ys,argTypes := ts }) (hfv : a.eval yf=.func (.func f) #[] cs) (hrep : RepL w (Stab F β s w) β xs (ys.toList.map a.eval++cs.toList))
  (hf : ptrCallF s nm fs t xs=some (x,δ,φ)) (hφ : φ) (hfr : ∀ c,(nm,c) ∈ δ→¬ u nm) : Does P F e s u a w o x δ := by
 unfold ptrCallF at hf
 split at hf
 case h_2=>cases hf
 rename_i fx zx t0 l0 c0 hp
 split at hf
 case h_2=>cases hf
 rename_i zs cz hnl
 split at hf
 case h_2=>cases hf
 rename_i r fx' φ0 hpg
 split at hf
 case isFalse=>cases hf
 rename_i hfree
 simp only [Option.some.injEq,Prod.mk.injEq] at hf
 obtain ⟨rfl,rfl,rfl⟩ := hf
 obtain ⟨hc0,hcz,hφ0⟩ := hφ
 -- the address
 have hptr : ∃ g cap vals,ys.toList.map a.eval++cs.toList=.pointer (some ⟨g,0,none⟩) :: vals∧RepL w (Stab F β s w) β zx vals∧s l0=some ⟨t,.fix fx⟩∧β l0=some (.blk g cap)∧AV.locsL fx=[] := by
  cases xs with
  | nil=>simp [ptrF] at hp
  | cons x0 xs =>
   simp only [ptrF] at hp
   split at hp
   ·rename_i l1 hx
    split at hp
    ·rename_i t' fx1 hsl
     split at hp
     ·rename_i ht
      obtain ⟨rfl,hloc⟩ := ht
      simp only [Option.some.injEq,Prod.mk.injEq] at hp
      obtain ⟨rfl,rfl,⟨rfl,rfl⟩,rfl⟩ := hp
      cases hy : ys.toList.map a.eval++cs.toList with
      | nil=>rw [hy] at hrep; simp [RepL] at hrep
      | cons v vs =>
       rw [hy] at hrep
       simp only [RepL] at hrep
       have h1 := hrep.1.core hc0
       rw [hx] at h1
       simp only [Rep] at h1
       obtain ⟨g,cap,h2,rfl⟩ := h1
       exact ⟨g,cap,vs,rfl,hrep.2,hsl,h2,hloc⟩
     ·cases hp
    ·cases hp
   ·cases hp
 obtain ⟨g,cap,vals,hsplit,hreps,hsl,hbl,hlocs⟩ := hptr
 have hargsRep := normL_ok h hnl hcz hreps (T := Stab F β s w) (fun b hb=>hb) (fun b hb=>by obtain ⟨l,hl,_⟩ := hb; cases hl) (fun b hb hst=>by cases hb)
 have hptrOK : PtrOK w (Stab F β s w) (consB β none) (some t) fx [.pointer (some ⟨g,0,none⟩)] (some g) := by
  have h1 := h.loc l0 _ hsl
  simp only [LocOK,CellsOK] at h1
  obtain ⟨g',cap',arr,e1,e2,e3⟩ := h1
  rw [hbl] at e1
  simp only [Option.some.injEq,Bl.blk.injEq] at e1
  obtain ⟨rfl,rfl⟩ := e1
  exact ⟨g,arr,rfl,rfl,fun hst=>hst.2 ⟨l0,_,cap,hsl,hbl⟩,(by simp [consB]),e2,hlocs,RepL.mono (fun _ h=>h) (fun _ _=>rfl) _ _ (by rw [hlocs]; simp) e3⟩
 have hcalls := hr zs fx ⟨r,fx',φ0,hpg,hφ0⟩ w (Stab F β s w) [.pointer (some ⟨g,0,none⟩)] vals none (some g) (fun b hb=>Stab.lt h hb) (Sat.glb h) hptrOK hargsRep
 intro K Q hK
 unfold Oper.wp
 rw [run_resolve hE ho hfv]
 simp only [Oper.upon]
 have he : ys.map a.eval++cs=([Value.pointer (some ⟨g,0,none⟩)]++vals).toArray := by
  apply Array.toList_inj.1
  simpa using hsplit
 rw [he]
 refine hcalls.mono (fun en w' hpost => ?_)
 obtain ⟨y,β',r',bl,fx2,rfl,⟨rfl,φ1,hR⟩,hpost,hzero⟩ := hpost
 rw [hpg] at hR
 simp only [Option.some.injEq,Prod.mk.injEq] at hR
 obtain ⟨rfl,rfl,rfl⟩ := hR
 have hlu : u l0 := by
  exact h.dom _ _ hbl
 have hnmu : ¬ u nm := hfr none (List.mem_cons_self ..)
 have hC : (fun b=>(none : Option Nat)=some b ∨ some g=some b)=consS β [l0] := by
  funext b
  apply propext
  constructor
  ·rintro (hb | hb)
   ·cases hb
   ·cases hb; exact ⟨l0,by simp,cap,hbl⟩
  ·rintro ⟨k,hk,cap',hb⟩
   simp only [List.mem_singleton] at hk
   subst hk
   rw [hbl] at hb
   simp only [Option.some.injEq,Bl.blk.injEq] at hb
   right; rw [hb.1]
 rw [hC] at hpost
 have hks : ∀ l1 ∈ [l0],∃ c,s l1=some c := by
  intro k hk
  simp only [List.mem_singleton] at hk
  subst hk; exact ⟨_,hsl⟩
 have hfr' : ∀ j,j<(fullB (some t) fx' []).length→¬ u (nm+1000 * j) := by
  intro j hj
  simp only [fullB,List.length_cons,List.length_nil] at hj
  have : j=0 := by omega
  subst this
  simpa using hnmu
 obtain ⟨β'',g1,g2,g3,g4⟩ := sat_callG h hfr' hks hpost
 simp only [fullB] at g1 g2
 obtain ⟨cap0,hz⟩ := hzero g rfl
 have hzn : β'' nm=some (.blk g cap0) := by simpa using g4 0 _ hz
 have hl0 : β'' l0=some (.blk g cap) := g3 l0 _ hbl
 have hne : l0≠nm := by intro h0; rw [h0] at hlu; exact hnmu hlu
 have hs1 : ∀ k,upds s (killsD [l0]++nameBl nm [(⟨t,.fix fx'⟩ : LB)] 1) k=if k=nm then some ⟨t,.fix fx'⟩ else if k=l0 then none else s k := by
  intro k
  simp only [killsD,nameBl,List.map_cons,List.map_nil,upds,List.nil_append,List.cons_append,List.foldl_cons,List.foldl_nil,updS,blH]
  by_cases h1 : k=nm
  ·subst h1; simp
  ·simp [h1]
 obtain ⟨g5,hst⟩ := g1.alias (l0 := l0) (nm := nm) (t := t) (xs := fx') (g := g) (cap := cap) (cap0 := cap0) (by rw [show ([(⟨t,.fix fx'⟩ : LB)]).length=1 from rfl,hs1,if_neg hne,if_pos rfl]) (by rw [show ([(⟨t,.fix fx'⟩ : LB)]).length=1 from rfl,hs1,if_pos rfl]) hl0 hzn
 have e3 : upds s [(nm,none),(l0,some ⟨t,.fix fx'⟩)]=updS (updS (upds s (killsD [l0]++nameBl nm [(⟨t,.fix fx'⟩ : LB)] [(⟨t,.fix fx'⟩ : LB)].length)) nm none) l0 (some ⟨t,.fix fx'⟩) := by
  funext k
  rw [show ([(⟨t,.fix fx'⟩ : LB)]).length=1 from rfl]
  have h9 := hs1 k
  generalize upds s (killsD [l0]++nameBl nm [(⟨t,.fix fx'⟩ : LB)] 1)=s9 at h9
  simp only [upds,List.foldl_cons,List.foldl_nil]
  unfold updS
  by_cases h1 : k=l0
  ·simp [h1]
  ·by_cases h2 : k=nm
   ·simp [h2]
   ·simp only [if_neg h1,if_neg h2]
    rw [h9,if_neg h2,if_neg h1]
 have e4 : updu u [(nm,none),(l0,some ⟨t,.fix fx'⟩)]=updu u (killsD [l0]++nameBl nm [(⟨t,.fix fx'⟩ : LB)] [(⟨t,.fix fx'⟩ : LB)].length) := by
  funext k
  apply propext
  simp only [updu,killsD,nameBl,List.length_cons,List.length_nil,List.map_cons,List.map_nil,List.nil_append,List.cons_append,List.mem_cons,List.not_mem_nil,or_false,Nat.mul_zero,Nat.add_zero]
  constructor
  ·rintro (h0 | h0 | h0)
   ·exact .inl h0
   ·exact .inr (.inr h0)
   ·exact .inr (.inl h0)
  ·rintro (h0 | h0 | h0)
   ·exact .inl h0
   ·exact .inr (.inr h0)
   ·exact .inr (.inl h0)
 refine hK y w' β'' (by rw [e3,e4]; exact g5) ?_
 have g6 : Rep w' (Stab F β'' (upds s (killsD [l0]++nameBl nm [(⟨t,.fix fx'⟩ : LB)] [(⟨t,.fix fx'⟩ : LB)].length)) w') β'' r y := Rep.mono (fun _ h=>h) (fun _ _=>rfl) r y (by rw [hfree.1]; intro l hl; cases hl) g2
 rw [e3,hst]
 exact g6
end
end Go.Ab

namespace Go.Ab
open Go.RowKit
def eqAggL : List Value→List AV→List AV→Option Bool
 | [],[],[]=>some true
 | .int _ _ :: zs,.v (.int k a) :: xs,.v (.int k' b) :: ys=>if k=k' then (eqAggL zs xs ys).map fun r=>decide (a=b) && r else none
 | .bool _ :: zs,.v (.bool a) :: xs,.v (.bool b) :: ys=>(eqAggL zs xs ys).map fun r=>(a == b) && r
 | _,_,_=>none
def aggF (D : CD) (t : TypeId) (op : BinOp) (p q : AV) (xs ys : List AV) : Res :=
 match D.ty t with
 | some (.st zs) =>
  if D.cmp t=true then
   match eqAggL zs xs ys with
   | some r =>
    match op with
    | .eql=>some (.v (.bool r),[],p.cond∧q.cond)
    | .neq=>some (.v (.bool (!r)),[],p.cond∧q.cond)
    | _=>none
   | none=>none
  else none
 | _=>none
def binG (D : CD) (t : TypeId) (op : BinOp) (p q : AV) : Res :=
 match p.core,q.core with
 | .agg xs,.agg ys=>aggF D t op p q xs ys
 | _,_=>binF D t op p q
section
variable {F : Fr} {β : Names} {e : Nat→Option AV} {s : Heap} {u : Nat→Prop} {a : Act} {w : World} {P : Program} {o : Oper} {x : AV} {D : CD} {δ : Delta} {φ : Prop}
theorem run_part_cell {t : TypeId} {z : Value} (hk : CmpCell P z t) {xs : Array Value} {off : Nat} {v : Value} (hx : xs[off]? = some v) : (part t xs off).run P w=.ok v w := by
 unfold part
 unfold CmpCell at hk
 cases z <;> simp only at hk
 case int =>
  obtain ⟨k,hu⟩ := hk
  simp [isAgg,run_underlying hu,hx]
 case bool=>simp [isAgg,run_underlying hk,hx]
theorem eqAggL_int {k0 : IntKind} {n0 : Int} {zs : List Value} {x y : AV} {xs ys : List AV} {r : Bool} (h : eqAggL (.int k0 n0 :: zs) (x :: xs) (y :: ys)=some r) :
  ∃ k a b r',x=.v (.int k a)∧y=.v (.int k b)∧eqAggL zs xs ys=some r'∧r=(decide (a=b) && r') := by
 unfold eqAggL at h
 split at h
 ·rename_i h1 _ _; cases h1
 ·rename_i h1 h2 h3
  cases h1; cases h2; cases h3
  split at h
  ·rename_i hk
   subst hk
   simp only [Option.map_eq_some_iff] at h
   obtain ⟨r',e1,e2⟩ := h
   exact ⟨_,_,_,r',rfl,rfl,e1,e2.symm⟩
  ·cases h
 ·rename_i h1 _ _; cases h1
 ·cases h
theorem eqAggL_bool {b0 : Bool} {zs : List Value} {x y : AV} {xs ys : List AV} {r : Bool} (h : eqAggL (.bool b0 :: zs) (x :: xs) (y :: ys)=some r) :
  ∃ a b r',x=.v (.bool a)∧y=.v (.bool b)∧eqAggL zs xs ys=some r'∧r=((a == b) && r') := by
 unfold eqAggL at h
 split at h
 ·rename_i h1 _ _; cases h1
 ·rename_i h1 _ _; cases h1
 ·rename_i h1 h2 h3
  cases h1; cases h2; cases h3
  simp only [Option.map_eq_some_iff] at h
  obtain ⟨r',e1,e2⟩ := h
  exact ⟨_,_,r',rfl,rfl,e1,e2.symm⟩
 ·cases h
theorem eqFields_run {T : Nat→Prop} (d:Nat) {us vs : Array Value} : ∀ {zs : List Value} {xs ys : List AV} {fs : List Field} {r : Bool} {j : Nat},eqAggL zs xs ys=some r→RepL w T β xs (us.toList.drop j)→RepL w T β ys (vs.toList.drop j) →
  fs.length=zs.length→(∀ (i:Nat) (f : Field) (z:Value), fs[i]? = some f→zs[i]? = some z→f.name≠ "_"∧f.offset=j+i∧CmpCell P z f.type)→(Op.eqFields (d+1) us vs fs).run P w=.ok r w
 | [],xs,ys,fs,r,j,he,_,_,hl,_=>by
  have : fs=[] := List.eq_nil_of_length_eq_zero (by simpa using hl)
  subst this
  cases xs <;> cases ys <;> simp only [eqAggL] at he <;> try cases he
  simp [Op.eqFields]
 | z :: zs,xs,ys,fs,r,j,he,hx,hy,hl,hf=>by
  cases fs with
  | nil=>simp at hl
  | cons f fs =>
  cases xs with
  | nil=>cases z <;> simp [eqAggL] at he
  | cons x xs =>
  cases ys with
  | nil=>cases z <;> cases x <;> (try simp [eqAggL] at he) <;> (rename_i v; cases v <;> simp [eqAggL] at he)
  | cons y ys =>
  obtain ⟨hname,hoff,hcell⟩ := hf 0 f z (by simp) (by simp)
  have hrest : ∀ (i:Nat) (g : Field) (z':Value), fs[i]? = some g→zs[i]? = some z'→g.name≠ "_"∧g.offset=(j+1)+i∧CmpCell P z' g.type := fun i g z' hg hz=>by
   obtain ⟨h1,h2,h3⟩ := hf (i+1) g z' (by simpa using hg) (by simpa using hz)
   exact ⟨h1,by omega,h3⟩
  simp only [Nat.add_zero] at hoff
  -- the cells
  have cells : ∀ (cs : Array Value) (z : AV) (l : List AV),RepL w T β (z :: l) (cs.toList.drop j)→∃ v,cs[j]? = some v∧Rep w T β z v∧RepL w T β l (cs.toList.drop (j+1)) := by
   intro cs z l h
   cases hd : cs.toList.drop j with
   | nil=>rw [hd] at h; simp [RepL] at h
   | cons v vs =>
    rw [hd] at h
    simp only [RepL] at h
    have h1 : cs.toList[j]? = some v := by
     have := congrArg (fun l=>l[0]?) hd
     simpa using this
    have h2 : cs.toList.drop (j+1)=vs := by
     rw [← List.drop_drop,hd]; rfl
    exact ⟨v,by simpa using h1,h.1,by rw [h2]; exact h.2⟩
  obtain ⟨v1,c1,r1,t1⟩ := cells us x xs hx
  obtain ⟨v2,c2,r2,t2⟩ := cells vs y ys hy
  have key : ∀ (b r':Bool),(Op.equalIn (d+1) f.type v1 v2).run P w=.ok b w→eqAggL zs xs ys=some r'→r=(b && r')→(Op.eqFields (d+1) us vs (f :: fs)).run P w=.ok r w := by
   intro b r' hb hr' hrr
   simp only [Op.eqFields,if_pos hname,Sem.run_bind]
   rw [hoff,run_part_cell hcell c1]
   simp only [Result.andThen_ok]
   rw [run_part_cell hcell c2]
   simp only [Result.andThen_ok]
   rw [hb]
   simp only [Result.andThen_ok]
   cases b with
   | false=>simp [hrr]
   | true =>
    simp only [Bool.not_true,Bool.false_eq_true,if_false]
    have := eqFields_run d hr' t1 t2 (by simpa using hl) hrest
    rw [this,hrr]; rfl
  unfold CmpCell at hcell
  cases z <;> simp only at hcell
  case int k0 n0 =>
   obtain ⟨k,a,b,r',rfl,rfl,h1,h2⟩ := eqAggL_int he
   simp only [Rep] at r1 r2
   subst r1; subst r2
   obtain ⟨k2,hu⟩ := hcell
   exact key (a == b) r' (run_equalIn_int w d f.type k k2 a b hu) h1 (by rw [h2]; congr 1)
  case bool b0 =>
   obtain ⟨a,b,r',rfl,rfl,h1,h2⟩ := eqAggL_bool he
   simp only [Rep] at r1 r2
   subst r1; subst r2
   exact key (a == b) r' (run_equalIn_bool' w d f.type a b hcell) h1 h2
theorem run_binG (hD : COK P D) (h : Sat F β e s u a w) {op : BinOp} {t ty : TypeId} {y z : Operand} (ho : o.op=.binOp op t y z ty) {p q : AV} (hp : opv e y=some p) (hq : opv e z=some q)
  (hf : binG D t op p q=some (x,δ,φ)) (hφ : φ) : δ=[]∧Does P F e s u a w o x [] := by
 unfold binG at hf
 split at hf
 ·rename_i xs ys hpc hqc
  have rp := h.opv hp
  have rq := h.opv hq
  unfold aggF at hf
  split at hf
  case h_2=>cases hf
  rename_i zs hty
  split at hf
  case isFalse=>cases hf
  rename_i hcmp
  split at hf
  case h_2=>cases hf
  rename_i r hr
  obtain ⟨hst,hgd,hu,hlen,hfs⟩ := hD.cmp t zs hcmp hty
  have main : p.cond∧q.cond→∃ us vs : Array Value,a.eval y=.agg us∧a.eval z=.agg vs∧(Op.equalIn 10000 t (.agg us) (.agg vs)).run P w=.ok r w := by
   rintro ⟨hc1,hc2⟩
   have rp' := rp.core hc1
   have rq' := rq.core hc2
   rw [hpc] at rp'
   rw [hqc] at rq'
   simp only [Rep] at rp' rq'
   obtain ⟨us,e1,l1⟩ := rp'
   obtain ⟨vs,e2,l2⟩ := rq'
   refine ⟨us,vs,e1,e2,?_⟩
   rw [run_equalIn_agg w 9999 t us vs hu hst]
   exact eqFields_run (T := Stab F β s w) (β := β) 9998 (j := 0) hr (by simpa using l1) (by simpa using l2) (by simpa using hlen) (fun i f z hi hz=>by
    obtain ⟨g1,g2,g3⟩ := hfs i f z (by simpa using hi) hz
    exact ⟨g1,by omega,g3⟩)
  cases op <;> simp only at hf <;> try cases hf
  ·obtain ⟨us,vs,e1,e2,e3⟩ := main hφ
   refine ⟨rfl,does_pure h (y := .bool r) ?_ (by simp only [Rep])⟩
   unfold execOp
   simp only [ho,e1,e2,Sem.run_bind,run_eqGuard_agg w _ t y z us vs hgd,Result.andThen_ok,run_eql_struct,e3,Sem.run_pure]
  ·obtain ⟨us,vs,e1,e2,e3⟩ := main hφ
   refine ⟨rfl,does_pure h (y := .bool (!r)) ?_ (by simp only [Rep])⟩
   unfold execOp
   simp only [ho,e1,e2,Sem.run_bind,run_eqGuard_agg w _ t y z us vs hgd,Result.andThen_ok,run_neq_struct,e3,Sem.run_pure]
 ·exact run_bin hD h ho hp hq hf hφ
end
end Go.Ab

namespace Go.Ab
open Go.RowKit
def arrF (n:Nat) (d:Dat) : List AV := (List.range n).map fun k=>(d.elem k).headD .any
def loadG (D : CD) (s : Heap) (t : TypeId) (p : AV) : Res :=
 match D.ty t,p.core with
 | some (.arr d0),.ptr l 0 =>
  match s l with
  | some ⟨_,.row d⟩=>if d.esz=1 then some (.agg (arrF d0.len d),[],p.cond∧d.len=d0.len) else none
  | _=>none
 | _,_=>loadF D s t p
def storeG (D : CD) (s : Heap) (t : TypeId) (p x : AV) : Res :=
 match D.ty t,p.core,x.core with
 | some (.arr d0),.ptr l 0,.agg ys =>
  match s l with
  | some ⟨ty,.row d⟩ =>
   if d.esz=1∧d0.kind.esz=1∧ys.length=d0.len∧allOne ys=true then (d0.kind.mk (ys.map fun y => [y])).map fun d'=>(.any,[(l,some ⟨ty,.row d'⟩)],p.cond∧x.cond∧d.len=d0.len) else none
  | _=>none
 | _,_,_=>storeF D s t p x
def structG (D : CD) (t : TypeId) (parts : List (Nat × AV)) : Res :=
 match D.ty t,parts with
 | some (.arr d0),[]=>some (.agg (arrF d0.len d0),[],True)
 | _,_=>none
section
variable {F : Fr} {β : Names} {e : Nat→Option AV} {s : Heap} {u : Nat→Prop} {a : Act} {w : World} {P : Program} {o : Oper} {x : AV} {D : CD} {δ : Delta} {φ : Prop}
theorem repL_of_get {T : Nat→Prop} : ∀ {xs : List AV} {ys : List Value},xs.length=ys.length→(∀ (i:Nat) (x : AV) (y:Value),xs[i]? = some x→ys[i]? = some y→Rep w T β x y)→RepL w T β xs ys
 | [],[],_,_=>by simp [RepL]
 | x :: xs,y :: ys,hl,h=>by
  simp only [RepL]
  exact ⟨h 0 x y (by simp) (by simp),repL_of_get (by simpa using hl) (fun i x' y' hx hy=>h (i+1) x' y' (by simpa using hx) (by simpa using hy))⟩
 | [],_ :: _,hl,_=>by simp at hl
 | _ :: _,[],hl,_=>by simp at hl
theorem elem_head {d : Dat} (h1 : d.esz=1) (k:Nat) : d.elem k=[(d.elem k).headD .any] := by
 have hl := Dat.elem_length d k
 rw [h1] at hl
 generalize d.elem k=l at hl
 match l,hl with
 | [x],_=>rfl
theorem isAgg_arr {t e : TypeId} {n : Nat} (hu : P.underlying t=some (.array n e)) : (isAgg t).run P w=.ok true w := by simp [isAgg,run_underlying hu]
theorem arr_load {T : Nat→Prop} {t : TypeId} {d0 d : Dat} {l g cap : Nat} {ty : TypeId} (ht : TyOK P t (.arr d0)) (h1 : β l=some (.blk g cap)) (hloc : CellsOK w T β l ty (.row d)) (hesz : d.esz=1) (hlen : d.len=d0.len) :
  ∃ v,(loadVar t ⟨g,0,none⟩).run P w=.ok v w∧Rep w T β (.agg (arrF d0.len d)) v := by
 simp only [CellsOK] at hloc
 rcases hloc with ⟨b1,_⟩ | ⟨g',cap',cur,b1,b2,b3,b4,b5,b6⟩
 ·rw [h1] at b1; cases b1
 rw [h1] at b1
 simp only [Option.some.injEq,Bl.blk.injEq] at b1
 obtain ⟨rfl,rfl⟩ := b1
 simp only [TyOK] at ht
 obtain ⟨⟨i,hi,hsz,_⟩,hd1,_,_,e1,hu,_⟩ := ht
 rw [hesz,Nat.mul_one] at b5
 have hsz' : i.size=d0.len := by rw [hsz,hd1,Nat.mul_one]
 have hn : (cur.toList.take d0.len).length=d0.len := by rw [List.length_take,Array.length_toList]; omega
 have hlc := run_loadCells_list (P := P) w ⟨g,0,none⟩ (cur.toList.take d0.len) (fun j v hj=>by
  rw [List.getElem?_take] at hj
  split at hj
  ·rw [Addr.add_lit,Nat.zero_add,cell_of_row w g _ cur ty (0,0) b2]; simpa using hj
  ·cases hj)
 rw [hn] at hlc
 refine ⟨.agg (cur.toList.take d0.len).toArray,?_,?_⟩
 ·unfold loadVar
  simp only [Sem.run_bind,isAgg_arr hu,Result.andThen_ok,if_true]
  rw [run_sizeOf hi]
  simp only [Result.andThen_ok]
  rw [hsz',hlc]
  simp
 ·simp only [Rep]
  refine ⟨_,rfl,repL_of_get (by simp [arrF]; omega) (fun k z v hz hv => ?_)⟩
  unfold arrF at hz
  rw [List.getElem?_map] at hz
  cases hr : (List.range d0.len)[k]? with
  | none=>rw [hr] at hz; cases hz
  | some k' =>
   rw [hr] at hz
   have hk : k<d0.len := by have := (List.getElem?_eq_some_iff.1 hr).1; simpa using this
   have hk' : k' = k := by
    have := (List.getElem?_eq_some_iff.1 hr).2
    simpa using this.symm
   subst hk'
   simp only [Option.map_some,Option.some.injEq] at hz
   subst hz
   obtain ⟨v',e2,e3⟩ := b6 k' 0 ((d.elem k').headD .any) (by omega) (by rw [elem_head hesz k']; rfl)
   rw [hesz,Nat.mul_one,Nat.add_zero] at e2
   simp only [List.getElem?_take,hk,if_true,Array.getElem?_toList] at hv
   rw [e2] at hv
   cases hv
   exact e3
theorem run_loadG (hD : COK P D) (h : Sat F β e s u a w) {t : TypeId} {y : Operand} (ho : o.op=.load t y) {p : AV} (hp : opv e y=some p)
  (hf : loadG D s t p=some (x,δ,φ)) (hφ : φ) : δ=[]∧Does P F e s u a w o x [] := by
 unfold loadG at hf
 split at hf
 ·rename_i d0 l hty hpc
  split at hf
  ·rename_i ty d hsl
   split at hf
   case isFalse=>cases hf
   rename_i hesz
   simp only [Option.some.injEq,Prod.mk.injEq] at hf
   obtain ⟨rfl,rfl,rfl⟩ := hf
   obtain ⟨hc,hlen⟩ := hφ
   have rp' := (h.opv hp).core hc
   rw [hpc] at rp'
   simp only [Rep] at rp'
   obtain ⟨g,cap,h1,h2⟩ := rp'
   obtain ⟨v,hlv,hv⟩ := arr_load (hD.ty _ _ hty) h1 (h.loc l _ hsl) hesz hlen
   refine ⟨rfl,does_pure h (y := v) ?_ hv⟩
   unfold execOp
   simp only [ho,h2,Instr.loadAt,Instr.sureAddr,Sem.run_bind,Sem.run_pure,Result.andThen_ok,hlv]
  ·cases hf
 ·exact run_load' hD h ho hp hf hφ
theorem run_storeG (hD : COK P D) (h : Sat F β e s u a w) {t : TypeId} {y z : Operand} (ho : o.op=.store t y z) {p q : AV} (hp : opv e y=some p) (hq : opv e z=some q)
  (hf : storeG D s t p q=some (x,δ,φ)) (hφ : φ) : Does P F e s u a w o x δ := by
 unfold storeG at hf
 split at hf
 ·rename_i d0 l ys hty hpc hqc
  split at hf
  ·rename_i ty d hsl
   split at hf
   case isFalse=>cases hf
   rename_i hlen
   obtain ⟨hesz,hk1,hyl,hone⟩ := hlen
   cases hmk : d0.kind.mk (ys.map fun y => [y]) with
   | none=>rw [hmk] at hf; cases hf
   | some d' =>
   rw [hmk] at hf
   simp only [Option.map_some,Option.some.injEq,Prod.mk.injEq] at hf
   obtain ⟨rfl,rfl,rfl⟩ := hf
   obtain ⟨hc1,hc2,hdl⟩ := hφ
   have rp' := (h.opv hp).core hc1
   have rq' := (h.opv hq).core hc2
   rw [hpc] at rp'
   rw [hqc] at rq'
   simp only [Rep] at rp' rq'
   obtain ⟨g,cap,h1,h2⟩ := rp'
   obtain ⟨vs,e1,e2⟩ := rq'
   have hloc := h.loc l _ hsl
   simp only [LocOK,CellsOK] at hloc
   rcases hloc with ⟨b1,_⟩ | ⟨g',cap',cur,b1,b2,b3,b4,b5,b6⟩
   ·rw [h1] at b1; cases b1
   rw [h1] at b1
   simp only [Option.some.injEq,Bl.blk.injEq] at b1
   obtain ⟨rfl,rfl⟩ := b1
   have ht := hD.ty _ _ hty
   simp only [TyOK] at ht
   obtain ⟨⟨i,hi,hsz,_⟩,hd1,_,_,e3,hu,_⟩ := ht
   rw [hesz,Nat.mul_one] at b5
   have hsz' : i.size=d0.len := by rw [hsz,hd1,Nat.mul_one]
   have hlv := e2.length_eq
   simp only [Array.length_toList] at hlv
   obtain ⟨m1,m2,m3⟩ := mk_spec (w := w) (β := β) hmk
   have hde : d'.esz=1 := by rw [Dat.esz_kind,m1]; exact hk1
   have hdl' : d'.len=d0.len := by rw [m2]; simp [hyl]
   have hr := run_storeVar (P := P) (t := t) hi (g := g) (off := 0) b2 (v := a.eval z) (vs := vs.toList) (by rw [e1]; simp [Value.cells]) (by rw [hsz']; simp; omega)
    (by simp; omega) (e2.one hone)
   simp only [List.take_zero,List.nil_append,Nat.zero_add,Array.length_toList] at hr
   refine does_store h ho (c := ⟨ty,.row d'⟩) hsl h1 h2 b2 hr (fun w' hkeep hw' => ?_)
   simp only [CellsOK]
   refine .inr ⟨g,cap,_,h1,hw',by omega,b4,?_,?_⟩
   ·rw [hde,Nat.mul_one]; simp; omega
   ·intro k j z' hk hj
    have hj0 : j=0 := by have := elem_lt hj; omega
    subst hj0
    have hkv : k<vs.size := by omega
    have hky : k<ys.length := by omega
    refine ⟨vs[k],?_,?_⟩
    ·rw [hde,Nat.mul_one,Nat.add_zero]
     simp only [List.getElem?_toArray]
     rw [List.getElem?_append_left (by simp; omega)]
     simp [hkv]
    ·have hrk : RepL w (Stab F β s w) β (d'.elem k) [vs[k]] := m3 _ k [ys[k]] [vs[k]] (by simp [hky]) (by
      simp only [RepL,and_true]
      obtain ⟨v2,g1,g2⟩ := e2.get (j := k) (x := ys[k]) (List.getElem?_eq_getElem hky)
      have : v2=vs[k] := by
       have : vs.toList[k]? = some vs[k] := by simp [hkv]
       rw [this] at g1; cases g1; rfl
      rw [← this]; exact g2)
     obtain ⟨v3,g1,g2⟩ := hrk.get hj
     simp at g1
     subst g1
     exact Rep.mono (fun _ hb=>hb) hkeep _ _ (fun _ _ _ hp=>hp) g2
  ·cases hf
 ·exact run_store' hD h ho hp hq hf hφ
theorem run_structG (hD : COK P D) (h : Sat F β e s u a w) {t : TypeId} {ps : Array (Nat × Operand)} (ho : o.op=.build t ps) (hps : ps.toList=[])
  (hf : structG D t []=some (x,δ,φ)) : δ=[]∧Does P F e s u a w o x [] := by
 unfold structG at hf
 split at hf
 ·rename_i d0 hty _
  simp only [Option.some.injEq,Prod.mk.injEq] at hf
  obtain ⟨rfl,rfl,rfl⟩ := hf
  have ht := hD.ty _ _ hty
  simp only [TyOK] at ht
  obtain ⟨⟨i,hi,hsz,zs,hz1,hz2,hz3⟩,hd1,_,hel,e1,hu,ei,he1,he2⟩ := ht
  have hps' : ps = #[] := Array.toList_eq_nil_iff.1 hps
  subst hps'
  have hb : P.built t (#[] : Array (Nat × Value)).toList=some zs := by
   unfold Program.built
   simp only [hi,hu,hz1,he1]
   simp [Instr.fill,Value.cells]
  refine ⟨rfl,does_pure h (y := .agg zs) ?_ ?_⟩
  ·unfold execOp
   simp [ho,run_build w t _ zs hb]
  ·simp only [Rep]
   rw [hd1,Nat.mul_one] at hz2
   refine ⟨zs,rfl,repL_of_get (by simp [arrF]; omega) (fun k z v hzk hv => ?_)⟩
   unfold arrF at hzk
   rw [List.getElem?_map] at hzk
   cases hr : (List.range d0.len)[k]? with
   | none=>rw [hr] at hzk; cases hzk
   | some k' =>
    rw [hr] at hzk
    have hk : k<d0.len := by have := (List.getElem?_eq_some_iff.1 hr).1; simpa using this
    have hk' : k' = k := by
     have := (List.getElem?_eq_some_iff.1 hr).2
     simpa using this.symm
    subst hk'
    simp only [Option.map_some,Option.some.injEq] at hzk
    subst hzk
    have hzk2 : k' < zs.size := by omega
    have e2 := hz3 k' hzk2
    have hv' : v=zs[k'] := by
     have : zs.toList[k']? = some zs[k'] := by simp [hzk2]
     rw [this] at hv; cases hv; rfl
    rw [hv',e2]
    rcases hel k' hk with h1 | ⟨h1,h2⟩
    ·rw [h1]; simp [Rep]
    ·rw [h2,h1]; simp only [List.headD_cons,Rep]; exact sl_of_nil rfl
 ·cases hf
end
end Go.Ab

namespace Go.Ab
open Go.RowKit
def goB (n:Nat) : List (Nat × AV)→List AV→Option (List AV × Prop)
 | [],acc=>some (acc,True)
 | (i,y) :: r,acc =>
  if i<n∧y.core.one=true then
   match goB n r (acc.set i y.core) with
   | some (z,c)=>some (z,y.cond∧c)
   | none=>none
  else none
def structF (D : CD) (t : TypeId) (parts : List (Nat × AV)) : Res :=
 match D.ty t with
 | some (.st zs) =>
  match goB zs.length parts (zs.map .v) with
  | some (xs,c)=>some (.agg xs,[],c)
  | none=>none
 | _=>none
def argsA (e : Nat→Option AV) : List Operand→Option (List AV)
 | []=>some []
 | y :: r =>
  match opv e y,argsA e r with
  | some x,some xs=>some (x :: xs)
  | _,_=>none
def partsE (e : Nat→Option AV) : List (Nat × Operand)→Option (List (Nat × AV))
 | []=>some []
 | (i,y) :: r =>
  match opv e y,partsE e r with
  | some x,some xs=>some ((i,x) :: xs)
  | _,_=>none
section
variable {F : Fr} {β : Names} {e : Nat→Option AV} {s : Heap} {u : Nat→Prop} {a : Act} {w : World} {P : Program} {o : Oper} {x : AV} {D : CD} {δ : Delta} {φ : Prop}
theorem argsA_ok (h : Sat F β e s u a w) : ∀ {ys : List Operand} {xs : List AV},argsA e ys=some xs→RepL w (Stab F β s w) β xs (ys.map a.eval)
 | [],xs,hx=>by simp only [argsA,Option.some.injEq] at hx; subst hx; simp [RepL]
 | y :: r,xs,hx=>by
  simp only [argsA] at hx
  split at hx
  ·rename_i v vs h1 h2
   cases hx
   simp only [List.map_cons,RepL]
   exact ⟨h.opv h1,argsA_ok h h2⟩
  ·cases hx
theorem structF_fill {T : Nat→Prop} {places : Array (Nat × Nat)} {n : Nat} (hpl : ∀ i,i<n→places[i]? = some (i,1)) (h : Sat F β e s u a w) (hT : T=Stab F β s w) :
  ∀ {ps : List (Nat × Operand)} {xs : List (Nat × AV)} {acc : List AV} {cells : Array Value} {z : List AV} {c : Prop},partsE e ps=some xs→goB n xs acc=some (z,c)→c→acc.length=n→RepL w T β acc cells.toList →
   ∃ r,Instr.fill (places[·]?) cells (ps.map fun p=>(p.1,a.eval p.2))=some r∧RepL w T β z r.toList
 | [],xs,acc,cells,z,c,hp,hg,hc,hl,hr=>by
  simp only [partsE,Option.some.injEq] at hp
  subst hp
  simp only [goB,Option.some.injEq,Prod.mk.injEq] at hg
  obtain ⟨rfl,rfl⟩ := hg
  exact ⟨cells,rfl,hr⟩
 | (i,y) :: r,xs,acc,cells,z,c,hp,hg,hc,hl,hr=>by
  simp only [partsE] at hp
  split at hp
  ·rename_i v vs h1 h2
   cases hp
   simp only [goB] at hg
   split at hg
   ·rename_i hi
    split at hg
    ·rename_i z' c' hg'
     simp only [Option.some.injEq,Prod.mk.injEq] at hg
     obtain ⟨rfl,rfl⟩ := hg
     have hv : Rep w T β v.core (a.eval y) := by rw [hT]; exact (h.opv h1).core hc.1
     have ho1 := hv.one hi.2
     have hlen := hr.length_eq
     simp only [Array.length_toList] at hlen
     obtain ⟨r',hr1,hr2⟩ := structF_fill hpl h hT (acc := acc.set i v.core) (cells := cells.setIfInBounds i (a.eval y)) h2 hg' hc.2 (by simpa using hl) (by simpa using hr.set hv)
     refine ⟨r',?_,hr2⟩
     simp only [List.map_cons,Instr.fill,hpl i hi.1,cells_one ho1]
     rw [if_neg (by simp; omega)]
     simpa using hr1
    ·cases hg
   ·cases hg
  ·cases hp
theorem run_struct (hD : COK P D) (h : Sat F β e s u a w) {t : TypeId} {ps : Array (Nat × Operand)} (ho : o.op=.build t ps) {xs : List (Nat × AV)}
  (hp : partsE e ps.toList=some xs) (hf : structF D t xs=some (x,δ,φ)) (hφ : φ) : δ=[]∧Does P F e s u a w o x [] := by
 unfold structF at hf
 split at hf
 ·rename_i zs hty
  split at hf
  ·rename_i z c hg
   simp only [Option.some.injEq,Prod.mk.injEq] at hf
   obtain ⟨rfl,rfl,rfl⟩ := hf
   obtain ⟨⟨it,hi1,hi2,hi3⟩,fs,hu,hfs,hall⟩ := hD.ty _ _ hty
   let places : List (Nat × Nat) := fs.toList.map fun f=>(f.offset,1)
   have hplaces : fs.toList.mapM (fun f=>(P.info? f.type).map fun i=>(f.offset,i.size))=some places := by
    have : ∀ (l : List Field),(∀ f ∈ l,∃ fi,P.info? f.type=some fi∧fi.size=1)→l.mapM (fun f=>(P.info? f.type).map fun i=>(f.offset,i.size))=some (l.map fun f=>(f.offset,1)) := by
     intro l
     induction l with
     | nil=>intro _; rfl
     | cons f l ih =>
      intro hf
      obtain ⟨fi,h1,h2⟩ := hf f (by simp)
      simp [List.mapM_cons,h1,h2,ih (fun f hf'=>hf f (by simp [hf']))]
    refine this fs.toList (fun f hf => ?_)
    obtain ⟨j,hj⟩ := List.getElem?_of_mem hf
    obtain ⟨_,fi,h1,h2⟩ := hall j f (by simpa using hj)
    exact ⟨fi,h1,h2⟩
   have hpl : ∀ i,i<zs.length→places.toArray[i]? = some (i,1) := by
    intro i hi
    have hfi : fs[i]? = some (fs[i]'(by omega)) := Array.getElem?_eq_getElem (by omega)
    obtain ⟨h1,_⟩ := hall i _ hfi
    simp only [places,List.getElem?_toArray,List.getElem?_map,Array.getElem?_toList,hfi,Option.map_some,h1]
   obtain ⟨r,hr1,hr2⟩ := structF_fill (T := Stab F β s w) hpl h rfl (acc := zs.map .v) (cells := zs.toArray) hp hg hφ (by simp) (repL_vals zs)
   refine ⟨rfl,does_pure h (y := .agg r) ?_ (by simp only [Rep]; exact ⟨r,rfl,hr2⟩)⟩
   have hb : P.built t (ps.map fun (i,y)=>(i,a.eval y)).toList=some r := by
    unfold Program.built
    simp only [hi1,hu,hi3,hplaces]
    rw [Array.toList_map]
    exact hr1
   unfold execOp
   simp [ho,run_build w t _ r hb]
  ·cases hf
 ·cases hf
def structH (D : CD) (t : TypeId) (xs : List (Nat × AV)) : Res :=
 match structG D t xs with
 | some r=>some r
 | none=>structF D t xs
section
variable {F : Fr} {β : Names} {e : Nat→Option AV} {s : Heap} {u : Nat→Prop} {a : Act} {w : World} {P : Program} {o : Oper} {x : AV} {D : CD} {δ : Delta} {φ : Prop}
theorem run_structH (hD : COK P D) (h : Sat F β e s u a w) {t : TypeId} {ps : Array (Nat × Operand)} (ho : o.op=.build t ps) {xs : List (Nat × AV)}
  (hp : partsE e ps.toList=some xs) (hf : structH D t xs=some (x,δ,φ)) (hφ : φ) : δ=[]∧Does P F e s u a w o x [] := by
 unfold structH at hf
 split at hf
 ·rename_i r hg
  simp only [Option.some.injEq] at hf
  subst hf
  cases xs with
  | nil =>
   refine run_structG hD h ho ?_ hg
   cases hps : ps.toList with
   | nil=>rfl
   | cons q qs =>
    rw [hps] at hp
    obtain ⟨i,y⟩ := q
    simp only [partsE] at hp
    split at hp <;> cases hp
  | cons q qs=>unfold structG at hg; split at hg <;> rename_i h1 h2 <;> cases hg <;> cases h2
 ·exact run_struct hD h ho hp hf hφ
end
abbrev Tab := Nat→Option FnS
def postF (fl:Bool) (nm:Nat) (r : AV × Delta × Prop) : AV × Delta × Prop :=
 match fl,r.1,r.2.1.getLast? with
 | false,.own l n,some (k,some ⟨_,.row d⟩)=>if l=nm∧k=nm then (.sl d,r.2.1.dropLast++[(nm,none)],r.2.2∧n=d.len) else r
 | _,_,_=>r
theorem does_post {F : Fr} {e : Nat→Option AV} {s : Heap} {u : Nat→Prop} {a : Act} {w : World} {P : Program} {o : Oper} {fl : Bool} {nm : Nat} {r : AV × Delta × Prop} (h : Does P F e s u a w o r.1 r.2.1) (hφ : (postF fl nm r).2.2) :
  Does P F e s u a w o (postF fl nm r).1 (postF fl nm r).2.1 := by
 unfold postF at hφ ⊢
 split
 ·rename_i l n k t d h1 h2
  split
  ·rename_i hk
   obtain ⟨rfl,rfl⟩ := hk
   simp only [h1,h2,if_true,and_self] at hφ
   obtain ⟨_,hn⟩ := hφ
   obtain ⟨ys,hys⟩ := List.getLast?_eq_some_iff.1 h2
   rw [h1,hys,hn] at h
   have := does_row (ψ := True) (φ := True) (x := .sl d) (δ' := ys++[(k,none)]) false h (by simp [rowRes])
   rw [hys]
   simpa using this
  ·exact h
 ·exact h
def callO (T : Tab) (e : Nat→Option AV) (s : Heap) (fl:Bool) (nm:Nat) (f:Nat) (caps : List AV) (c:Prop) (ys : List Operand) : Res :=
 match T f,argsA e ys with
 | some fs,some xs =>
  match fs.pt with
  | none=>(callF s fl nm fs (xs++caps)).map fun r=>(postF fl nm (r.1,r.2.1,c∧r.2.2))
  | some t=>(ptrCallF s nm fs t (xs++caps)).map fun r=>(r.1,r.2.1,c∧r.2.2)
 | _,_=>none
def builtF (D : CD) (e : Nat→Option AV) (s : Heap) (fl:Bool) (nm:Nat) (b : Builtin) (ys : List Operand) (ts : List TypeId) : Res :=
 match b,ys,ts with
 | .len,[y],[t]=>match opv e y with | some p=>lenF D t p | none=>none
 | .append,[y,z],[t,t']=>if t=t' then match opv e y,opv e z with | some p,some q=>appendF D s fl nm t p q | _,_=>none else none
 | .max,[y,z],_=>match opv e y,opv e z with | some p,some q=>maxF p q | _,_=>none
 | .min,[y,z],_=>match opv e y,opv e z with | some p,some q=>minF p q | _,_=>none
 | _,_,_=>none
def callC (D : CD) (T : Tab) (e : Nat→Option AV) (s : Heap) (fl:Bool) (nm:Nat) (c : Call) : Res :=
 match c.callee with
 | .builtin b=>builtF D e s fl nm b c.args.toList c.argTypes.toList
 | .value y =>
  match opv e y with
  | some p=>match p.core with | .fn f caps=>callO T e s fl nm f caps p.cond c.args.toList | _=>none
  | none=>none
 | _=>none
def opF (D : CD) (T : Tab) (e : Nat→Option AV) (s : Heap) (fl:Bool) (nm:Nat) (op : Op) : Res :=
 match op with
 | .move y=>match opv e y with | some x=>some (x,[],True) | none=>none
 | .assign y=>match opv e y with | some x=>some (x,[],True) | none=>none
 | .pick c p q=>match opv e c,opv e p,opv e q with | some c,some p,some q=>pickF c p q | _,_,_=>none
 | .binOp op t y z _=>match opv e y,opv e z with | some p,some q=>binG D t op p q | _,_=>none
 | .unOp op _ y=>match opv e y with | some p=>unF op p | none=>none
 | .convert src dst y=>match opv e y with | some p=>convF D src dst p | none=>none
 | .nilCheck y=>match opv e y with | some p=>nilF p | none=>none
 | .extract y i=>match opv e y with | some p=>extF p i | none=>none
 | .fieldAddr t y i=>match opv e y with | some p=>fieldAddrF D t p i | none=>none
 | .indexAddr t y z=>match opv e y,opv e z with | some p,some q=>indexAddrF D t p q | _,_=>none
 | .index t y z=>match opv e y,opv e z with | some p,some q=>indexF D t p q | _,_=>none
 | .load t y=>match opv e y with | some p=>loadG D s t p | none=>none
 | .store t y z=>match opv e y,opv e z with | some p,some q=>storeG D s t p q | _,_=>none
 | .slice t y lo hi mx=>match opv e y,opvo e lo,opvo e hi,mx with | some p,some lo,some hi,none=>sliceF D t p lo hi | _,_,_,_=>none
 | .alloc t=>allocF D nm t
 | .box t y=>match opv e y with | some p=>boxF D nm t p | none=>none
 | .buildSlice t n ps=>match partsA e 0 ps.toList with | some xs=>buildSliceF D fl nm t n xs | none=>none
 | .build t ps=>match partsE e ps.toList with | some xs=>structH D t xs | none=>none
 | .makeSlice t y z=>match opv e y,opv e z with | some p,some q=>makeSliceF D fl nm t p q | _,_=>none
 | .makeFunc fn first caps=>match fn,first.toList,argsA e caps.toList with | .func f,[],some xs=>some (.fn f xs,[],True) | _,_,_=>none
 | .call c=>callC D T e s fl nm c
 | _=>none
def TabOK (P : Program) (T : Tab) : Prop := ∀ f fs,T f=some fs→FnX P f fs∧Entr P f
def freshD (u : Nat→Prop) (nm:Nat) (δ : Delta) : Prop := ∀ k c,(nm+1000 * k,c) ∈ δ→¬ u (nm+1000 * k)
theorem normL_cons {s : Heap} : ∀ {sg : List PK} {xs ys : List AV} {c : Prop} {vw : List Nat} {l : Option Nat},normL s sg xs=some (ys,c,vw,l)→∀ l0,l=some l0→∃ c,s l0=some c
 | [],[],ys,c,vw,l,hn,l0,hl=>by
  simp only [normL,Option.some.injEq,Prod.mk.injEq] at hn
  obtain ⟨_,_,_,rfl⟩ := hn
  cases hl
 | k :: ks,x :: xs,ys,c,vw,l,hn,l0,hl=>by
  simp only [normL] at hn
  split at hn
  ·rename_i y c1 v1 l1 ys' c2 v2 l2 h1 h2
   split at hn
   ·simp only [Option.some.injEq,Prod.mk.injEq] at hn
    obtain ⟨_,_,_,hl'⟩ := hn
    cases k with
    | c k t =>
     simp only [isC,if_true] at hl'
     rw [hl] at hl'
     simp only [normP] at h1
     split at h1
     ·simp only [Option.some.injEq,Prod.mk.injEq] at h1
      obtain ⟨_,_,_,rfl⟩ := h1
      cases hl'
     ·rename_i l' n hx
      split at h1
      ·rename_i ty d hsl
       split at h1
       ·simp only [Option.some.injEq,Prod.mk.injEq] at h1
        obtain ⟨_,_,_,rfl⟩ := h1
        cases hl'
        exact ⟨_,hsl⟩
       ·cases h1
      ·cases h1
     ·cases h1
    | o=>simp only [isC,Bool.false_eq_true,if_false] at hl'; exact normL_cons h2 l0 (hl'.trans hl)
    | s k=>simp only [isC,Bool.false_eq_true,if_false] at hl'; exact normL_cons h2 l0 (hl'.trans hl)
    | a k=>simp only [isC,Bool.false_eq_true,if_false] at hl'; exact normL_cons h2 l0 (hl'.trans hl)
   ·cases hn
  ·cases hn
 | [],_ :: _,_,_,_,_,hn,_,_=>by simp [normL] at hn
 | _ :: _,[],_,_,_,_,hn,_,_=>by simp [normL] at hn
theorem normL_vw {s : Heap} : ∀ {sg : List PK} {xs ys : List AV} {c : Prop} {vw : List Nat} {l : Option Nat},normL s sg xs=some (ys,c,vw,l)→∀ l0 ∈ vw,∃ c,s l0=some c := by
 have hA : ∀ {k : Option DatK} {x y : AV} {c : Prop} {vw : List Nat},normA s k x=some (y,c,vw)→∀ l0 ∈ vw,∃ c,s l0=some c := by
  intro k x y c vw hn l0 hl
  cases k with
  | none =>
   simp only [normA] at hn
   split at hn
   ·simp only [Option.some.injEq,Prod.mk.injEq] at hn; obtain ⟨_,_,rfl⟩ := hn; cases hl
   ·cases hn
  | some k =>
   simp only [normA] at hn
   split at hn
   ·split at hn
    ·simp only [Option.some.injEq,Prod.mk.injEq] at hn; obtain ⟨_,_,rfl⟩ := hn; cases hl
    ·cases hn
   ·simp only [Option.some.injEq,Prod.mk.injEq] at hn; obtain ⟨_,_,rfl⟩ := hn; cases hl
   ·split at hn
    ·rename_i hsl
     split at hn
     ·simp only [Option.some.injEq,Prod.mk.injEq] at hn; obtain ⟨_,_,rfl⟩ := hn
      simp only [List.mem_singleton] at hl; subst hl; exact ⟨_,hsl⟩
     ·cases hn
    ·cases hn
   ·cases hn
 have hAL : ∀ {ks : List (Option DatK)} {xs ys : List AV} {c : Prop} {vw : List Nat},normAL s ks xs=some (ys,c,vw)→∀ l0 ∈ vw,∃ c,s l0=some c := by
  intro ks
  induction ks with
  | nil =>
   intro xs ys c vw hn l0 hl
   cases xs with
   | nil=>simp only [normAL,Option.some.injEq,Prod.mk.injEq] at hn; obtain ⟨_,_,rfl⟩ := hn; cases hl
   | cons _ _=>simp [normAL] at hn
  | cons k ks ih =>
   intro xs ys c vw hn l0 hl
   cases xs with
   | nil=>simp [normAL] at hn
   | cons x xs =>
    simp only [normAL] at hn
    split at hn
    ·rename_i h1 h2
     simp only [Option.some.injEq,Prod.mk.injEq] at hn
     obtain ⟨_,_,rfl⟩ := hn
     rcases List.mem_append.1 hl with hl | hl
     ·exact hA h1 l0 hl
     ·exact ih h2 l0 hl
    ·cases hn
 intro sg
 induction sg with
 | nil =>
  intro xs ys c vw l hn l0 hl
  cases xs with
  | nil=>simp only [normL,Option.some.injEq,Prod.mk.injEq] at hn; obtain ⟨_,_,rfl,_⟩ := hn; cases hl
  | cons _ _=>simp [normL] at hn
 | cons k ks ih =>
  intro xs ys c vw l hn l0 hl
  cases xs with
  | nil=>simp [normL] at hn
  | cons x xs =>
   simp only [normL] at hn
   split at hn
   ·rename_i y c1 v1 l1 ys' c2 v2 l2 h1 h2
    split at hn
    ·simp only [Option.some.injEq,Prod.mk.injEq] at hn
     obtain ⟨_,_,rfl,_⟩ := hn
     rcases List.mem_append.1 hl with hl | hl
     ·cases k with
      | o=>simp only [normP,Option.map_eq_some_iff,Prod.mk.injEq] at h1; obtain ⟨⟨_,_,_⟩,hh,_,_,rfl,_⟩ := h1; exact hA hh l0 hl
      | s k=>simp only [normP,Option.map_eq_some_iff,Prod.mk.injEq] at h1; obtain ⟨⟨_,_,_⟩,hh,_,_,rfl,_⟩ := h1; exact hA hh l0 hl
      | a k =>
       simp only [normP] at h1
       split at h1
       ·simp only [Option.map_eq_some_iff,Prod.mk.injEq] at h1; obtain ⟨⟨_,_,_⟩,hh,_,_,rfl,_⟩ := h1; exact hAL hh l0 hl
       ·cases h1
      | c k t =>
       simp only [normP] at h1
       split at h1
       ·simp only [Option.some.injEq,Prod.mk.injEq] at h1; obtain ⟨_,_,rfl,_⟩ := h1; cases hl
       ·split at h1
        ·split at h1
         ·simp only [Option.some.injEq,Prod.mk.injEq] at h1; obtain ⟨_,_,rfl,_⟩ := h1; cases hl
         ·cases h1
        ·cases h1
       ·cases h1
     ·exact ih h2 l0 hl
    ·cases hn
   ·cases hn
theorem post_phi {fl : Bool} {nm : Nat} {r : AV × Delta × Prop} (h : (postF fl nm r).2.2) : r.2.2 := by
 unfold postF at h
 split at h
 ·split at h
  ·exact h.1
  ·exact h
 ·exact h
theorem post_fresh {fl : Bool} {nm : Nat} {r : AV × Delta × Prop} {u : Nat→Prop} (h : freshD u nm (postF fl nm r).2.1) : freshD u nm r.2.1 := by
 unfold postF at h
 split at h
 ·rename_i l n k t d h1 h2
  split at h
  ·rename_i hk
   obtain ⟨rfl,rfl⟩ := hk
   obtain ⟨ys,hys⟩ := List.getLast?_eq_some_iff.1 h2
   rw [hys] at h ⊢
   intro i c hm
   rcases List.mem_append.1 hm with hm | hm
   ·exact h i c (by simp only [List.dropLast_concat]; exact List.mem_append_left _ hm)
   ·simp only [List.mem_singleton,Prod.mk.injEq] at hm
    exact h i none (by simp only [List.dropLast_concat]; exact List.mem_append_right _ (by simp [hm.1]))
  ·exact h
 ·exact h
theorem run_call' {T : Tab} (hT : TabOK P T) (h : Sat F β e s u a w) {fl : Bool} {nm : Nat} {yf : Operand} {ys : Array Operand} {ts : Array TypeId} {f : Nat} {caps : List AV} {cs : Array Value} {c : Prop}
  (ho : o.op=.call { callee := .value yf,args := ys,argTypes := ts }) (hfv : a.eval yf=.func (.func f) #[] cs) (hcs : RepL w (Stab F β s w) β caps cs.toList)
  (hf : callO T e s fl nm f caps c ys.toList=some (x,δ,φ)) (hφ : φ) (hfr : freshD u nm δ) : Does P F e s u a w o x δ := by
 unfold callO at hf
 split at hf
 ·rename_i fs xs hTf hargs
  obtain ⟨hok,hE⟩ := hT f fs hTf
  unfold FnX at hok
  cases hpt : fs.pt
  case some tp =>
   simp only [hpt] at hok hf
   simp only [Option.map_eq_some_iff,Prod.mk.injEq] at hf
   obtain ⟨⟨r0,δ0,φ0⟩,hcall,rfl,rfl,rfl⟩ := hf
   exact run_pcall hok hE h ho hfv ((argsA_ok h hargs).append hcs) hcall hφ.2 (fun c hc=>by simpa using hfr 0 c (by simpa using hc))
  simp only [hpt] at hok hf
  simp only [Option.map_eq_some_iff] at hf
  obtain ⟨⟨r0,δ0,φ0⟩,hcall,hpost⟩ := hf
  have hφ' : c∧φ0 := post_phi (fl := fl) (nm := nm) (r := (r0,δ0,c∧φ0)) (by rw [hpost]; exact hφ)
  have hfr' : freshD u nm δ0 := post_fresh (fl := fl) (nm := nm) (r := (r0,δ0,c∧φ0)) (by rw [hpost]; exact hfr)
  have main : Does P F e s u a w o r0 δ0 := by
   unfold callF at hcall
   split at hcall
   ·rename_i zs cz vw l hn
    split at hcall
    ·rename_i r rows φr hg
     split at hcall
     ·rename_i hcond
      simp only [Option.some.injEq,Prod.mk.injEq] at hcall
      obtain ⟨rfl,rfl,rfl⟩ := hcall
      obtain ⟨hc,hcz,hφr⟩ := hφ'
      have hrep : RepL w (Stab F β s w) β (xs++caps) (ys.toList.map a.eval++cs.toList) := (argsA_ok h hargs).append hcs
      have hvws := normL_vw hn
      have hcons := normL_cons hn
      have hC : ∀ b,consB β l=some b→¬ (Stab F β s w b ∨ Seen β vw b) ∨ ∃ l0 ∈ vw,l=some l0 := by
       intro b hb
       by_cases hin : ∃ l0 ∈ vw,l=some l0
       ·exact .inr hin
       ·left
        rintro (hst | ⟨l1,hl1,cap1,hb1⟩)
        ·unfold consB at hb
         split at hb
         ·cases hb
         ·rename_i l0
          obtain ⟨c0,hc0⟩ := hcons l0 rfl
          split at hb
          ·rename_i g cap hbl; cases hb; exact hst.2 ⟨l0,c0,cap,hc0,hbl⟩
          ·cases hb
        ·unfold consB at hb
         split at hb
         ·cases hb
         ·rename_i l0
          obtain ⟨c0,hc0⟩ := hcons l0 rfl
          split at hb
          ·rename_i g cap hbl
           cases hb
           obtain ⟨c1,hc1⟩ := hvws l1 hl1
           have := h.inj l1 l0 c1 c0 _ cap1 cap hc1 hc0 hb1 hbl
           subst this
           exact hin ⟨l1,hl1,rfl⟩
          ·cases hb
      by_cases hin : ∃ l0 ∈ vw,l=some l0
      ·exfalso
       obtain ⟨l0,h1,h2⟩ := hin
       have := hcond.2
       rw [h2] at this
       simp [consOk] at this
       exact this h1
      ·have hargsRep := normL_ok h hn hcz hrep (T := fun b=>Stab F β s w b ∨ Seen β vw b) (fun b hb => .inl hb) (fun b hb => .inr hb) (fun b hb=>(hC b hb).resolve_right hin)
       have hlt : ∀ b,(Stab F β s w b ∨ Seen β vw b)→b<w.heap.size := by
        rintro b (hb | ⟨l1,hl1,cap1,hb1⟩)
        ·exact Stab.lt h hb
        ·obtain ⟨c1,hc1⟩ := hvws l1 hl1
         exact Live.lt h ⟨l1,c1,cap1,hc1,hb1⟩
       have hcalls := hok fl zs r rows φr hg hφr w _ _ _ hlt (GLB.mono (fun b hb => .inl hb) (fun _ _=>rfl) h.glb) hargsRep
       intro K Q hK
       unfold Oper.wp
       rw [run_resolve hE ho hfv]
       simp only [Oper.upon]
       have he : ys.map a.eval++cs=(ys.toList.map a.eval++cs.toList).toArray := by
        apply Array.toList_inj.1
        simp
       rw [he]
       refine hcalls.mono (fun en w' hpost => ?_)
       obtain ⟨y,β',rfl,hp⟩ := hpost
       have hfresh : ∀ j,j<rows.length→¬ u (nm+1000 * j) := by
        intro j hj
        have hmem : nm+1000 * j ∈ (nameRows nm rows rows.length).map (·.1) := (nameRows_names nm rows _ _).2 ⟨j,hj,rfl⟩
        obtain ⟨p,hp1,hp2⟩ := List.mem_map.1 hmem
        exact hfr' j p.2 (by rw [← hp2]; exact List.mem_append_right _ hp1)
       obtain ⟨β'',hsat,hrep'⟩ := sat_call h hfresh hcons hcond.1 hp
       exact hK y w' β'' hsat hrep'
     ·cases hcall
    ·cases hcall
   ·cases hcall
  have hfin := does_post (fl := fl) (nm := nm) (r := (r0,δ0,c∧φ0)) main (by rw [hpost]; exact hφ)
  rw [hpost] at hfin
  exact hfin
 ·cases hf
theorem rowRes_mem {fl : Bool} {nm : Nat} {t : TypeId} {d : Dat} {δ0 : Delta} {ψ : Prop} (h : rowRes fl nm t d δ0 ψ=some (x,δ,φ)) : ∃ c,(nm,c) ∈ δ := by
 unfold rowRes at h
 split at h <;> (simp only [Option.some.injEq,Prod.mk.injEq] at h; obtain ⟨_,rfl,_⟩ := h; exact ⟨_,List.mem_append_right _ (List.mem_singleton.2 rfl)⟩)
theorem fresh_nm {nm : Nat} (hfr : freshD u nm δ) (h : ∃ c,(nm,c) ∈ δ) : ¬ u nm := by
 obtain ⟨c,hc⟩ := h
 have := hfr 0 c (by simpa using hc)
 simpa using this
theorem opF_ok {T : Tab} (hD : COK P D) (hT : TabOK P T) (h : Sat F β e s u a w) {fl : Bool} {nm : Nat} (hf : opF D T e s fl nm o.op=some (x,δ,φ)) (hφ : φ) (hfr : freshD u nm δ) : Does P F e s u a w o x δ := by
 have dn : ∀ {x : AV} {δ : Delta},(δ=[]∧Does P F e s u a w o x [])→Does P F e s u a w o x δ := by rintro x δ ⟨rfl,h⟩; exact h
 cases hop : o.op <;> rw [hop] at hf <;> simp only [opF] at hf <;> try cases hf
 case move y =>
  split at hf
  ·rename_i h1; cases hf; exact run_move h (.inl hop) h1
  ·cases hf
 case assign y =>
  split at hf
  ·rename_i h1; cases hf; exact run_move h (.inr hop) h1
  ·cases hf
 case pick c p q =>
  split at hf
  ·rename_i h1 h2 h3; exact dn (run_pick h hop h1 h2 h3 hf hφ)
  ·cases hf
 case alloc t =>
  refine run_alloc' hD h (fresh_nm hfr ?_) hop hf
  unfold allocF at hf
  split at hf
  ·cases hf; exact ⟨_,List.mem_singleton.2 rfl⟩
  ·cases hf
 case box t y =>
  split at hf
  ·rename_i h1
   refine run_box h (fresh_nm hfr ?_) hop h1 hf hφ
   unfold boxF at hf
   split at hf
   ·split at hf
    ·cases hf; exact ⟨_,List.mem_singleton.2 rfl⟩
    ·cases hf
   ·split at hf
    ·cases hf; exact ⟨_,List.mem_singleton.2 rfl⟩
    ·cases hf
   ·cases hf
  ·cases hf
 case build t ps =>
  split at hf
  ·rename_i h1; exact dn (run_structH hD h hop h1 hf hφ)
  ·cases hf
 case buildSlice t n ps =>
  split at hf
  ·rename_i h1
   refine run_buildSlice' hD h (fresh_nm hfr ?_) hop h1 hf hφ
   unfold buildSliceF at hf
   split at hf
   ·split at hf
    ·split at hf
     ·exact rowRes_mem hf
     ·cases hf
    ·cases hf
   ·cases hf
  ·cases hf
 case load t y =>
  split at hf
  ·rename_i h1; exact dn (run_loadG hD h hop h1 hf hφ)
  ·cases hf
 case store t y z =>
  split at hf
  ·rename_i h1 h2; exact run_storeG hD h hop h1 h2 hf hφ
  ·cases hf
 case nilCheck y =>
  split at hf
  ·rename_i h1; exact dn (run_nil h hop h1 hf hφ)
  ·cases hf
 case binOp op t y z ty =>
  split at hf
  ·rename_i h1 h2; exact dn (run_binG hD h hop h1 h2 hf hφ)
  ·cases hf
 case unOp op t y =>
  split at hf
  ·rename_i h1; exact dn (run_un h hop h1 hf hφ)
  ·cases hf
 case convert src dst y =>
  split at hf
  ·rename_i h1; exact dn (run_conv hD h hop h1 hf hφ)
  ·cases hf
 case makeFunc fn first caps =>
  split at hf
  ·rename_i f xs h1 h2
   cases hf
   have h3 : first = #[] := Array.toList_eq_nil_iff.1 h1
   subst h3
   exact run_fn h hop (argsA_ok h h2)
  ·cases hf
 case makeSlice t y z =>
  split at hf
  ·rename_i h1 h2
   refine run_makeSlice' hD h (fresh_nm hfr ?_) hop h1 h2 hf hφ
   unfold makeSliceF at hf
   split at hf
   ·exact rowRes_mem hf
   ·cases hf
  ·cases hf
 case slice t y lo hi mx =>
  split at hf
  ·rename_i h1 h2 h3; exact dn (run_slice hD h hop h1 h2 h3 hf hφ)
  ·cases hf
 case fieldAddr t y i =>
  split at hf
  ·rename_i h1; exact dn (run_fieldAddr hD h hop h1 hf hφ)
  ·cases hf
 case indexAddr t y z =>
  split at hf
  ·rename_i h1 h2; exact dn (run_indexAddr hD h hop h1 h2 hf hφ)
  ·cases hf
 case index t y z =>
  split at hf
  ·rename_i h1 h2; exact dn (run_index hD h hop h1 h2 hf hφ)
  ·cases hf
 case extract y i =>
  split at hf
  ·rename_i h1; exact dn (run_ext h hop h1 hf hφ)
  ·cases hf
 case call c =>
  obtain ⟨callee,args,ts⟩ := c
  unfold callC at hf
  simp only at hf
  split at hf
  ·rename_i b
   unfold builtF at hf
   split at hf
   ·rename_i y t h1 h2
    obtain rfl : args = #[y] := by apply Array.toList_inj.1; simpa using h1
    obtain rfl : ts = #[t] := by apply Array.toList_inj.1; simpa using h2
    split at hf
    ·rename_i h1; exact dn (run_len hD h hop h1 hf hφ)
    ·cases hf
   ·rename_i y z t t' h1 h2
    obtain rfl : args = #[y,z] := by apply Array.toList_inj.1; simpa using h1
    obtain rfl : ts = #[t,t'] := by apply Array.toList_inj.1; simpa using h2
    split at hf
    ·rename_i htt
     subst htt
     split at hf
     ·rename_i h1 h2
      refine run_append' hD h (fresh_nm hfr ?_) hop h1 h2 hf hφ
      unfold appendF at hf
      split at hf
      ·split at hf
       ·split at hf
        ·split at hf
         ·exact rowRes_mem hf
         ·cases hf
        ·cases hf
       ·cases hf
      ·cases hf
     ·cases hf
    ·cases hf
   ·rename_i y z h1
    obtain rfl : args = #[y,z] := by apply Array.toList_inj.1; simpa using h1
    split at hf
    ·rename_i h1 h2; exact dn (run_max h hop h1 h2 hf hφ)
    ·cases hf
   ·rename_i y z h1
    obtain rfl : args = #[y,z] := by apply Array.toList_inj.1; simpa using h1
    split at hf
    ·rename_i h1 h2; exact dn (run_min h hop h1 h2 hf hφ)
    ·cases hf
   ·cases hf
  ·rename_i y
   split at hf
   ·rename_i p hp
    split at hf
    ·rename_i f caps hpc
     have hc : p.cond := by
      unfold callO at hf
      split at hf
      ·split at hf
       ·simp only [Option.map_eq_some_iff] at hf
        obtain ⟨r,_,hpost⟩ := hf
        exact (post_phi (by rw [hpost]; exact hφ) : _∧_).1
       ·simp only [Option.map_eq_some_iff,Prod.mk.injEq] at hf
        obtain ⟨r,_,_,_,rfl⟩ := hf
        exact hφ.1
      ·cases hf
     have hr := (h.opv hp).core hc
     rw [hpc] at hr
     simp only [Rep] at hr
     obtain ⟨cs,h1,h2⟩ := hr
     exact run_call' hT h hop h1 h2 hf hφ hfr
    ·cases hf
   ·cases hf
  ·cases hf
end
end Go.Ab
