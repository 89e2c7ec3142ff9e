import PyProof.Rows.All
import Wide.All
import OpenK.AllK
import Wide.FinOn
import HandS.ForMost
import HandS.ForExc
import HandS.Walk
import HandS.Defaults
import HandS.IsInst
import HandS.TupAny
import HandS.Deep
import HandS.TupLe
import HandS.Text
import HandS.WordsDict
import HandS.Star
import HandS.Conv
import HandS.More
import HandS.MakeKw
import HandS.MakeKwOnly
import HandS.ExcOwn
import KE.GoesEnum
import HandS.Iter
import HandS.Zip
import HandS.DictComp
import HandS.Style
import PyProof.CompUse
import HandS.Set
import HandS.Strs
import PyProof.Rows.SortStr
import PyProof.Rows.SortShellK
import KE.SortData
import HandS.SortInts
import HandS.OwnEq
import PyProof.InstNe
import KE.DataMinKey
import HandS.SortKw
import KE.KDictZip
import KE.KDictList
import KE.DataMinMax
import PyProof.Draws
import HandS.ListItems
import HandS.NoneIn
import PyProof.StrOps2
import HandS.Words
import HandS.WordsExc
import HandS.Ends
import HandS.Head0
import HandS.Head1
import HandS.Head2
import HandS.HeadEnd
import HandS.HeadHook1
import HandS.HeadHook2
import PySem.Challenge.RW_loopcuts_k71_calls_by_names
set_option Elab.async false
set_option linter.all false
set_option maxRecDepth 100000
set_option maxHeartbeats 0
namespace Lc
open PySem L2

/-- the state of the draws -/
structure MSt where
  cells : List Int
  left : List Int
  at_ : Int

inductive D where
  | non | bl (b : Bool) | int (i : Int) | str (s : Str)
  | tup (xs : List D) | lst (xs : List D)
  | dk (kvs : List (Key × D)) | dt (kvs : List (List Key × D))
  | ins (c : Nat) (fs : List (Str × D))
  | om (m : MSt)
  | scr (ns : List Int)

abbrev Zs := Addr → Prop
/-- what the layer knows of the text: where each class stands -/
structure Tx where
  K : PySem.W.Frag
  cl : Nat → Addr

def H0 : Hp := fun _ => none
def FT (T : Tx) (H : Hp) (Z : Zs) (a : Addr) (xs : List V) : Prop := (H a = some (.tup xs) ∧ ¬ Z a) ∨ (xs = [] ∧ SqT T.K H0 a xs)
/-- the script: a list that is held, or stands in the text -/
def FS (T : Tx) (H : Hp) (a : Addr) (xs : List V) : Prop := (∃ o, H a = some (.frz o (.lst xs))) ∨ SqL T.K H0 a xs

mutual
inductive R (T : Tx) (H : Hp) (Z : Zs) : V → D → Prop
  | non : R T H Z .non .non
  | bl (b : Bool) : R T H Z (.bl b) (.bl b)
  | int (i : Int) : R T H Z (.int i) (.int i)
  | str (x : Str) : R T H Z (.str x) (.str x)
  | tup {a : Addr} {xs : List V} {ds : List D} : FT T H Z a xs → RA T H Z xs ds → R T H Z (.ref a) (.tup ds)
  | lst {a : Addr} {xs : List V} {ds : List D} : H a = some (.lst xs) → ¬ Z a → RA T H Z xs ds → R T H Z (.ref a) (.lst ds)
  | dk {a : Addr} {ws : List (Key × V)} {kvs : List (Key × D)} : Rd H a (.dK ws) → ¬ Z a → ws.map (·.1) = kvs.map (·.1) → RA T H Z (ws.map (·.2)) (kvs.map (·.2)) → R T H Z (.ref a) (.dk kvs)
  | dt {a : Addr} {ws : List (List Key × V)} {kvs : List (List Key × D)} : Rd H a (.dT ws) → ¬ Z a → ws.map (·.1) = kvs.map (·.1) → RA T H Z (ws.map (·.2)) (kvs.map (·.2)) → R T H Z (.ref a) (.dt kvs)
  | ins {a dx : Addr} {c : Nat} {ws : List (Str × V)} {fs : List (Str × D)} : H a = some (.ins (T.cl c) dx ws) → ¬ Z a → H dx = some (.own a) → ¬ Z dx → ws.map (·.1) = fs.map (·.1) → RA T H Z (ws.map (·.2)) (fs.map (·.2)) → R T H Z (.ref a) (.ins c fs)
  | scr {a : Addr} {ns : List Int} : FS T H a (ns.map V.int) → R T H Z (.ref a) (.scr ns)
inductive RA (T : Tx) (H : Hp) (Z : Zs) : List V → List D → Prop
  | nil : RA T H Z [] []
  | cons {v : V} {d : D} {vs : List V} {ds : List D} : R T H Z v d → RA T H Z vs ds → RA T H Z (v :: vs) (d :: ds)
end

/-- a dict -/
def IsDc (o : HO) : Prop := (∃ ws, o = .dK ws) ∨ ∃ ws, o = .dT ws
/-- what does not change of itself: no table of code objects, nothing that is held, no dict (which may be held from now on) -/
def Kp (o : HO) : Prop := (∀ ps, o ≠ .tbl ps) ∧ (∀ b u, o ≠ .frz b u) ∧ ¬ IsDc o
/-- the heap goes on: what may not be written stays, what is owned anew is new -/
structure Step (H : Hp) (Z : Zs) (H' : Hp) (Z' : Zs) : Prop where
  keep : ∀ b o, H b = some o → ¬ Z b → Kp o → H' b = some o
  new : ∀ b, Z' b → Z b ∨ H b = none
  there : ∀ b o, H b = some o → ∃ o', H' b = some o'
  tb : ∀ b ps, H b = some (.tbl ps) → ∃ ps', H' b = some (.tbl ps')
  fr : ∀ b o u, H b = some (.frz o u) → H' b = some (.frz o u)
  kd : ∀ b u, IsDc u → Rd H b u → ¬ Z b → Rd H' b u
theorem Step.refl (H : Hp) (Z : Zs) : Step H Z H Z := ⟨fun _ _ h _ _ => h, fun _ h => .inl h, fun _ o h => ⟨o, h⟩, fun _ p h => ⟨p, h⟩, fun _ _ _ h => h, fun _ _ _ h _ => h⟩
theorem Rd.some {H : Hp} {b : Addr} {u : HO} (h : Rd H b u) : ∃ o, H b = some o := h.elim (fun h => ⟨_, h⟩) fun ⟨o, h⟩ => ⟨_, h⟩
theorem Step.trans {H H1 H2 : Hp} {Z Z1 Z2 : Zs} (a : Step H Z H1 Z1) (b : Step H1 Z1 H2 Z2) : Step H Z H2 Z2 where
  keep := fun c o h hz hk => by
    refine b.keep c o (a.keep c o h hz hk) (fun h1 => ?_) hk
    rcases a.new c h1 with q | q
    · exact hz q
    · rw [h] at q; cases q
  new := fun c h => by
    rcases b.new c h with q | q
    · exact a.new c q
    · right
      cases e : H c with
      | none => rfl
      | some o =>
        obtain ⟨o', h'⟩ := a.there c o e
        rw [q] at h'; cases h'
  there := fun c o h => by
    obtain ⟨o', h'⟩ := a.there c o h
    exact b.there c o' h'
  tb := fun c o h => by
    obtain ⟨o', h'⟩ := a.tb c o h
    exact b.tb c o' h'
  fr := fun c o xs h => b.fr c o xs (a.fr c o xs h)
  kd := fun c u d h hz => by
    refine b.kd c u d (a.kd c u d h hz) fun h1 => ?_
    obtain ⟨o, ho⟩ := Rd.some h
    rcases a.new c h1 with q | q
    · exact hz q
    · rw [ho] at q; cases q
/-- the heap only grows -/
def Gr (H H' : Hp) : Prop := ∀ b o, H b = some o → H' b = some o
theorem Gr.refl (H : Hp) : Gr H H := fun _ _ h => h
theorem Gr.trans {H H1 H2 : Hp} (a : Gr H H1) (b : Gr H1 H2) : Gr H H2 := fun c o h => b c o (a c o h)
theorem Gr.alloc {H : Hp} {p : Addr} {o : HO} (h : H p = none) : Gr H (upd H p o) := fun b u e => by rw [upd_ne (ne_of_none e h)]; exact e
theorem Gr.step {H H' : Hp} {Z : Zs} (g : Gr H H') : Step H Z H' Z where
  keep := fun b o e _ _ => g b o e
  new := fun _ q => .inl q
  there := fun b u e => ⟨u, g b u e⟩
  tb := fun b u e => ⟨u, g b _ e⟩
  fr := fun b o xs e => g b _ e
  kd := fun b u _ e _ => e.elim (fun e => .inl (g b _ e)) fun ⟨o, e⟩ => .inr ⟨o, g b _ e⟩

section
variable {T : Tx} {H H' : Hp} {Z Z' : Zs}
theorem Step.off (s : Step H Z H' Z') {b : Addr} {o : HO} (h : H b = some o) (hz : ¬ Z b) : ¬ Z' b := fun z => by
  rcases s.new b z with q | q
  · exact hz q
  · rw [h] at q; cases q
theorem Kp.lst {xs : List V} : Kp (.lst xs) := ⟨fun _ e => (nomatch e), fun _ _ e => (nomatch e), fun e => e.elim (fun ⟨_, e⟩ => (nomatch e)) fun ⟨_, e⟩ => (nomatch e)⟩
theorem Kp.tup {xs : List V} : Kp (.tup xs) := ⟨fun _ e => (nomatch e), fun _ _ e => (nomatch e), fun e => e.elim (fun ⟨_, e⟩ => (nomatch e)) fun ⟨_, e⟩ => (nomatch e)⟩
theorem Kp.ins {c d : Addr} {xs : List (Str × V)} : Kp (.ins c d xs) := ⟨fun _ e => (nomatch e), fun _ _ e => (nomatch e), fun e => e.elim (fun ⟨_, e⟩ => (nomatch e)) fun ⟨_, e⟩ => (nomatch e)⟩
theorem Kp.own {c : Addr} : Kp (.own c) := ⟨fun _ e => (nomatch e), fun _ _ e => (nomatch e), fun e => e.elim (fun ⟨_, e⟩ => (nomatch e)) fun ⟨_, e⟩ => (nomatch e)⟩
theorem Kp.xd {fs : List (Str × V)} : Kp (.xd fs) := ⟨fun _ e => (nomatch e), fun _ _ e => (nomatch e), fun e => e.elim (fun ⟨_, e⟩ => (nomatch e)) fun ⟨_, e⟩ => (nomatch e)⟩
theorem FT.step (s : Step H Z H' Z') {a : Addr} {xs : List V} (h : FT T H Z a xs) : FT T H' Z' a xs := by
  rcases h with ⟨h, hz⟩ | h
  · exact .inl ⟨s.keep _ _ h hz Kp.tup, s.off h hz⟩
  · exact .inr h
theorem Step.offD (s : Step H Z H' Z') {b : Addr} {u : HO} (h : Rd H b u) (hz : ¬ Z b) : ¬ Z' b := by
  obtain ⟨o, h⟩ := Rd.some h
  exact s.off h hz
mutual
theorem R.step (s : Step H Z H' Z') : ∀ {v : V} {d : D}, R T H Z v d → R T H' Z' v d
  | _, _, .non => .non
  | _, _, .bl b => .bl b
  | _, _, .int i => .int i
  | _, _, .str x => .str x
  | _, _, .tup h r => .tup (h.step s) (RA.step s r)
  | _, _, .lst h z r => .lst (s.keep _ _ h z Kp.lst) (s.off h z) (RA.step s r)
  | _, _, .dk h z k r => .dk (s.kd _ _ (.inl ⟨_, rfl⟩) h z) (s.offD h z) k (RA.step s r)
  | _, _, .dt h z k r => .dt (s.kd _ _ (.inr ⟨_, rfl⟩) h z) (s.offD h z) k (RA.step s r)
  | _, _, .ins h z h2 z2 k r => .ins (s.keep _ _ h z Kp.ins) (s.off h z) (s.keep _ _ h2 z2 Kp.own) (s.off h2 z2) k (RA.step s r)
  | _, _, .scr h => .scr (by
    rcases h with ⟨o, h⟩ | h
    · exact .inl ⟨o, s.fr _ _ _ h⟩
    · exact .inr h)
theorem RA.step (s : Step H Z H' Z') : ∀ {vs : List V} {ds : List D}, RA T H Z vs ds → RA T H' Z' vs ds
  | _, _, .nil => .nil
  | _, _, .cons r t => .cons (R.step s r) (RA.step s t)
end
end
end Lc
namespace Lc
open PySem L2

inductive Ty | int | str | bool | list | tuple | own (c : Nat)
  deriving DecidableEq
/-- a slot: nothing known, a thing that stays, a thing of its own -/
inductive Sl | no | fz (d : D) | ow (d : D)
abbrev Sg := List Sl
structure Xc where
  c : Nat
  f : D
inductive Res (α : Type) | ok (a : α) (ρ : Sg) | ex (x : Xc) (ρ : Sg) | no
def Res.bind {α β : Type} (r : Res α) (f : α → Sg → Res β) : Res β := match r with
  | .ok a ρ => f a ρ
  | .ex x ρ => .ex x ρ
  | .no => .no
def Res.of {α : Type} (o : Option α) (ρ : Sg) : Res α := match o with
  | some a => .ok a ρ
  | none => .no
abbrev EE := Sg → Res D
/-- an operand: a value, or a slot whose own thing is looked at -/
inductive Od | v (d : D) | s (i : Nat)
def Sl.d? : Sl → Option D
  | .no => none
  | .fz d => some d
  | .ow d => some d
def Od.get (o : Od) (ρ : Sg) : Option D := match o with
  | .v d => some d
  | .s i => (ρ.getD i .no).d?
abbrev EO := Sg → Res Od
abbrev EA := Sg → Res (List D)

mutual
def D.py : D → Option PyData
  | .non => some .none
  | .bl b => some (.bool b)
  | .int i => some (.int i)
  | .str s => some (.str s)
  | .tup xs => (D.pys xs).map .tuple
  | .lst xs => (D.pys xs).map .list
  | _ => none
def D.pys : List D → Option (List PyData)
  | [] => some []
  | x :: xs => match D.py x, D.pys xs with
    | some p, some ps => some (p :: ps)
    | _, _ => none
end
def LIM : Nat := 1000000
def okMul (i j : Int) : Bool := (decide (-(2 ^ 64) < i) && decide (i < 2 ^ 64)) || (decide (-(2 ^ 64) < j) && decide (j < 2 ^ 64))
def D.addD : D → D → Option D
  | .int i, .int j => some (.int (i + j))
  | .str x, .str y => if x.length + y.length ≤ LIM then some (.str (x ++ y)) else none
  | .tup x, .tup y => if x.length + y.length ≤ LIM then some (.tup (x ++ y)) else none
  | .lst x, .lst y => if x.length + y.length ≤ LIM then some (.lst (x ++ y)) else none
  | _, _ => none
def D.subD : D → D → Option D
  | .int i, .int j => some (.int (i - j))
  | _, _ => none
def D.mulD : D → D → Option D
  | .int i, .int j => if okMul i j then some (.int (i * j)) else none
  | .lst x, .int k => if 0 ≤ k ∧ k ≤ 1000 ∧ x.length ≤ 1000 then some (.lst (List.replicate k.toNat x).flatten) else none
  | _, _ => none
def D.fdivD : D → D → Option D
  | .int i, .int j => if 0 < j ∧ j < 1073741824 then some (.int (i / j)) else none
  | _, _ => none
def D.modD : D → D → Option D
  | .int i, .int j => if 0 < j then some (.int (i % j)) else none
  | _, _ => none
def D.powD : D → D → Option D
  | .int i, .int j => if 0 ≤ j ∧ j ≤ 1000 ∧ 0 ≤ i ∧ i < 1000 then some (.int (i ^ j.toNat)) else none
  | _, _ => none
def D.negD : D → Option D
  | .int i => some (.int (-i))
  | _ => none
def D.flat : D → Bool
  | .non | .bl _ | .int _ | .str _ => true
  | _ => false
def b01 (b : Bool) : Int := if b then 1 else 0
/-- == of flat things -/
def D.feq : D → D → Bool
  | .non, .non => true
  | .bl a, .bl b => a == b
  | .bl a, .int i => b01 a == i
  | .int i, .bl a => i == b01 a
  | .int i, .int j => i == j
  | .str x, .str y => decide (x = y)
  | _, _ => false
def D.eqB (a b : D) : Option Bool := match a.py, b.py with
  | some p, some q => if SeqAt.shaped p && SeqAt.shaped q then some (PyData.eqv p q) else none
  | _, _ => none
def D.ints : List D → Option (List Int)
  | [] => some []
  | .int i :: r => (D.ints r).map (i :: ·)
  | _ => none
def D.strs : List D → Option (List Str)
  | [] => some []
  | .str i :: r => (D.strs r).map (i :: ·)
  | _ => none
def D.bls : List D → Option (List Bool)
  | [] => some []
  | .bl i :: r => (D.bls r).map (i :: ·)
  | _ => none
def D.ltB : D → D → Option Bool
  | .int i, .int j => some (decide (i < j))
  | .str x, .str y => some (decide (x.cps.toList < y.cps.toList))
  | .tup x, .tup y => match D.ints x, D.ints y with
    | some ns, some ms => some (HT.lexLt ns ms)
    | _, _ => none
  | _, _ => none
def keyOf : D → Option Key
  | .int i => some (.inl i)
  | .str x => some (.inr x)
  | _ => none
def keysOf : List D → Option (List Key)
  | [] => some []
  | x :: xs => match keyOf x, keysOf xs with
    | some k, some ks => some (k :: ks)
    | _, _ => none
def kfind {κ : Type} [DecidableEq κ] (kvs : List (κ × D)) (k : κ) : Option D := (kvs.find? fun kv => decide (kv.1 = k)).map (·.2)
def kput {κ : Type} [DecidableEq κ] (kvs : List (κ × D)) (k : κ) (v : D) : List (κ × D) :=
  if (kvs.any fun kv => decide (kv.1 = k)) = true then kvs.map (fun kv => if kv.1 = k then (kv.1, v) else kv) else kvs ++ [(k, v)]
/-- d[k] of a dict, if it is there -/
def D.dget : D → D → Option (Option D)
  | .dk kvs, k => (keyOf k).map (kfind kvs)
  | .dt kvs, .tup (k :: ks) => (keysOf (k :: ks)).map (kfind kvs)
  | _, _ => none
def D.inB : D → D → Option Bool
  | x, .tup xs => match x.py, D.pys xs with
    | some p, some ps => if SeqAt.shaped p && SeqAt.shaped (.tuple ps) then some (ps.any fun z => PyData.eqv z p) else none
    | _, _ => none
  | x, .lst xs => match x.py, D.pys xs with
    | some p, some ps => if SeqAt.shaped p && SeqAt.shaped (.list ps) then some (ps.any fun z => PyData.eqv z p) else none
    | _, _ => none
  | .str x, .str y => match x.cps.toList with
    | [c] => some (decide (c ∈ y.cps.toList))
    | _ => none
  | x, d => (d.dget x).map Option.isSome
def oB (o : Option Bool) : Option D := o.map D.bl
def D.eqD (a b : D) : Option D := oB (a.eqB b)
def D.neD (a b : D) : Option D := oB ((a.eqB b).map not)
def D.ltD (a b : D) : Option D := oB (a.ltB b)
def D.leD : D → D → Option D
  | .int i, .int j => some (.bl (decide (i ≤ j)))
  | _, _ => none
def D.gtD : D → D → Option D
  | .int i, .int j => some (.bl (decide (j < i)))
  | _, _ => none
def D.geD : D → D → Option D
  | .int i, .int j => some (.bl (decide (j ≤ i)))
  | _, _ => none
def D.isN : D → Bool
  | .non => true
  | _ => false
def D.isD : D → D → Option D
  | a, .non => some (.bl a.isN)
  | .bl a, .bl b => some (.bl (decide (a = b)))
  | _, _ => none
def D.isnD : D → D → Option D
  | a, .non => some (.bl (!a.isN))
  | .bl a, .bl b => some (.bl (!decide (a = b)))
  | _, _ => none
def D.inD (a b : D) : Option D := oB (a.inB b)
def D.ninD (a b : D) : Option D := oB ((a.inB b).map not)
def D.ixD : D → D → Option D
  | .tup xs, .int i => atI xs i
  | .lst xs, .int i => atI xs i
  | .str z, .int i => if z.length ≤ LIM then (atI z.cps.toList i).map fun c => .str ⟨#[c]⟩ else none
  | _, _ => none
def D.dgetD (d k : D) : Option D := (d.dget k).bind id
def cutL {α : Type} (xs : List α) (lo hi : Option Int) : List α := (xs.drop (HT.sIx xs.length 0 lo)).take (HT.sIx xs.length xs.length hi - HT.sIx xs.length 0 lo)
def D.slD : D → Option Int → Option Int → Option D
  | .tup xs, lo, hi => some (.tup (cutL xs lo hi))
  | .lst xs, lo, hi => some (.lst (cutL xs lo hi))
  | .str z, lo, hi => if z.length ≤ LIM then some (.str (cutS z lo hi)) else none
  | _, _, _ => none
def D.revD : D → Option D
  | .lst xs => some (.lst xs.reverse)
  | .tup xs => some (.tup xs.reverse)
  | _ => none
def D.truth : D → Option Bool
  | .bl b => some b
  | _ => none
def tyOk : D → Ty → Bool
  | .int _, .int => true
  | .bl _, .int => true
  | .bl _, .bool => true
  | .str _, .str => true
  | .tup _, .tuple => true
  | .lst _, .list => true
  | .ins c _, .own e => c == e
  | _, _ => false
/-- a list of data sorted: insertion, stable, by < -/
def insD (lt : D → D → Bool) (x : D) : List D → List D
  | [] => [x]
  | y :: r => if lt x y then x :: y :: r else y :: insD lt x r
def srtD (lt : D → D → Bool) (xs : List D) : List D := xs.foldr (insD lt) []
def dltB (a b : D) : Bool := (a.ltB b).getD false
/-- all of one kind that is ordered -/
def D.kin (xs : List D) : Bool := (D.ints xs).isSome || (D.strs xs).isSome || xs.all fun x => match x with
  | .tup ys => (D.ints ys).isSome
  | _ => false
def D.dedup : List D → List D
  | [] => []
  | x :: r => if r.any (fun y => y.feq x) then D.dedup r else x :: D.dedup r
def D.seq? : D → Option (List D)
  | .tup xs => some xs
  | .lst xs => some xs
  | _ => none
def pick {α : Type} (best : α → α → Bool) : List α → Option α
  | [] => none
  | x :: r => match pick best r with
    | none => some x
    | some y => some (if best y x then y else x)
def D.lenD : D → Option D
  | .tup xs => some (.int xs.length)
  | .lst xs => some (.int xs.length)
  | .scr xs => some (.int xs.length)
  | .str z => if z.length ≤ LIM then some (.int z.length) else none
  | .dk kvs => some (.int kvs.length)
  | _ => none
def D.allD : D → Option D
  | .lst xs => (D.bls xs).map fun bs => .bl (bs.all id)
  | _ => none
def D.anyD : D → Option D
  | .lst xs => (D.bls xs).map fun bs => .bl (bs.any id)
  | _ => none
def D.sumD : D → Option D
  | .lst xs => (D.ints xs).map fun ns => .int ns.sum
  | _ => none
def minL : List Int → Option Int
  | [] => none
  | x :: r => match minL r with
    | none => some x
    | some y => some (if y < x then y else x)
def maxL : List Int → Option Int
  | [] => none
  | x :: r => match maxL r with
    | none => some x
    | some y => some (if x < y then y else x)
def D.minD : D → Option D
  | .lst xs => (D.ints xs).bind fun ns => (minL ns).map .int
  | .tup xs => (D.ints xs).bind fun ns => (minL ns).map .int
  | _ => none
def D.maxD : D → Option D
  | .lst xs => (D.ints xs).bind fun ns => (maxL ns).map .int
  | _ => none
def D.tupleD : D → Option D
  | .lst xs => some (.tup xs)
  | .tup xs => some (.tup xs)
  | _ => none
def D.listD : D → Option D
  | .lst xs => some (.lst xs)
  | .tup xs => some (.lst xs)
  | .scr ns => some (.lst (ns.map D.int))
  | _ => none
def D.sortedD (d : D) : Option D := d.seq?.bind fun xs => if xs.length < 64 ∧ D.kin xs = true then some (.lst (srtD dltB xs)) else none
def D.srtSetD : D → Option D
  | .lst xs => if xs.length < 64 ∧ ((D.ints xs).isSome || (D.strs xs).isSome) = true then some (.lst (srtD dltB (D.dedup xs))) else none
  | _ => none
def D.lenSetD : D → Option D
  | .lst xs => if xs.length < 64 ∧ ((D.ints xs).isSome || (D.strs xs).isSome) = true then some (.int (D.dedup xs).length) else none
  | _ => none
def D.valsD : D → Option D
  | .dk kvs => some (.lst (kvs.map (·.2)))
  | _ => none
def D.minLenD : D → Option D
  | .lst xs => pick (fun a b => decide ((a.seq?.getD []).length < (b.seq?.getD []).length)) xs
  | _ => none
def D.intD : D → Option D
  | .int i => some (.int i)
  | _ => none
def D.max2D : D → D → Option D
  | .int i, .int j => some (.int (if j > i then j else i))
  | _, _ => none
def D.min2D : D → D → Option D
  | .int i, .int j => some (.int (if j < i then j else i))
  | _, _ => none
end Lc
namespace Lc
open PySem L2

/-- an owned thing: what it holds stays, itself may be written -/
inductive Own (T : Tx) (H : Hp) (Z : Zs) : V → D → List Addr → Prop
  | lst {a : Addr} {xs : List V} {ds : List D} : H a = some (.lst xs) → RA T H Z xs ds → Own T H Z (.ref a) (.lst ds) [a]
  | dk {a : Addr} {ws : List (Key × V)} {kvs : List (Key × D)} : H a = some (.dK ws) → ws.map (·.1) = kvs.map (·.1) → RA T H Z (ws.map (·.2)) (kvs.map (·.2)) → Own T H Z (.ref a) (.dk kvs) [a]
  | dt {a : Addr} {ws : List (List Key × V)} {kvs : List (List Key × D)} : H a = some (.dT ws) → ws.map (·.1) = kvs.map (·.1) → RA T H Z (ws.map (·.2)) (kvs.map (·.2)) → Own T H Z (.ref a) (.dt kvs) [a]
  | ins {a dx : Addr} {c : Nat} {ws : List (Str × V)} {fs : List (Str × D)} : H a = some (.ins (T.cl c) dx ws) → H dx = some (.own a) → ws.map (·.1) = fs.map (·.1) → RA T H Z (ws.map (·.2)) (fs.map (·.2)) → Own T H Z (.ref a) (.ins c fs) [a, dx]
  | om {a l c : Addr} {m : MSt} : H a = some (.dK [(.inr "cells", .ref c), (.inr "left", .ref l), (.inr "at", .int m.at_)]) → H l = some (.lst (m.left.map V.int)) → R T H Z (.ref c) (.lst (m.cells.map D.int)) → a ≠ l →
      Own T H Z (.ref a) (.om m) [a, l]

structure Gh where
  Z : Zs
  fp : Nat → List Addr
/-- the frame: what the callers own, the slots that are never stored, the first slots -/
structure Fm where
  Y : Zs
  pn : Nat → Bool
  s0 : St
structure SR (T : Tx) (F : Fm) (g : Gh) (ρ : List Sl) (σ : St) (H : Hp) : Prop where
  len : ρ.length = σ.length
  fz : ∀ (i : Nat) (d : D), ρ[i]? = some (Sl.fz d) → ∃ v, σ[i]? = some (some v) ∧ R T H g.Z v d
  ow : ∀ (i : Nat) (d : D), ρ[i]? = some (Sl.ow d) → ∃ v, σ[i]? = some (some v) ∧ Own T H g.Z v d (g.fp i) ∧ ∀ a ∈ g.fp i, g.Z a ∧ ¬ F.Y a
  dj : ∀ (i j : Nat) (d e : D), i ≠ j → ρ[i]? = some (Sl.ow d) → ρ[j]? = some (Sl.ow e) → ∀ a ∈ g.fp i, a ∉ g.fp j
  yz : ∀ a, F.Y a → g.Z a
  zl : ∀ a, g.Z a → H a ≠ none
  pin : ∀ i, F.pn i = true → σ[i]? = F.s0[i]?
structure Stp (F : Fm) (g : Gh) (H : Hp) (g' : Gh) (H' : Hp) : Prop where
  st : Step H g.Z H' g'.Z
  pr : ∀ a, F.Y a → H' a = H a
theorem Stp.refl {F : Fm} {g : Gh} {H : Hp} : Stp F g H g H := ⟨Step.refl H g.Z, fun _ _ => rfl⟩
theorem Stp.trans {F : Fm} {g g1 g2 : Gh} {H H1 H2 : Hp} (a : Stp F g H g1 H1) (b : Stp F g1 H1 g2 H2) : Stp F g H g2 H2 :=
  ⟨a.st.trans b.st, fun c h => (b.pr c h).trans (a.pr c h)⟩

/-- an exception as it flies: its class, its one field -/
def XR (T : Tx) (g : Gh) (H : Hp) (cls : Value) (d : Option Addr) (x : Xc) : Prop :=
  cls = .ref (T.cl x.c) ∧ ∃ dx nm v, d = some dx ∧ H dx = some (.xd [(nm, v)]) ∧ R T H g.Z v x.f

section
variable (T : Tx) (F : Fm) (W : Value → Option Addr → St → Hp → Prop) {α β : Type} (rel : α → List Sl → Gh → St → Hp → β → Prop)
def Po (r : Res α) (g : Gh) (σ : St) (H : Hp) (Q : β → Hp → Prop) : Prop := match r with
  | .ok a ρ' => ∀ b g' H', Stp F g H g' H' → SR T F g' ρ' σ H' → rel a ρ' g' σ H' b → Q b H'
  | .ex x ρ' => ∀ cls d g' H', Stp F g H g' H' → SR T F g' ρ' σ H' → XR T g' H' cls d x → W cls d σ H'
  | .no => False
def den (t : List Sl → Res α) : St → Hp → (β → Hp → Prop) → Prop := fun σ H Q => ∃ g ρ, SR T F g ρ σ H ∧ Po T F W rel (t ρ) g σ H Q
end
section
variable {T : Tx} {F : Fm} {W : Value → Option Addr → St → Hp → Prop} {α β γ δ : Type} {rel : α → List Sl → Gh → St → Hp → β → Prop} {rel2 : γ → List Sl → Gh → St → Hp → δ → Prop} {g g' : Gh} {σ : St} {H H' : Hp} {ρ : List Sl}
theorem Po.step {r : Res α} {Q : β → Hp → Prop} (h : Po T F W rel r g σ H Q) (s : Stp F g H g' H') : Po T F W rel r g' σ H' Q := by
  cases r with
  | ok a ρ' => exact fun b g2 H2 s2 => h b g2 H2 (s.trans s2)
  | ex x ρ' => exact fun c d g2 H2 s2 => h c d g2 H2 (s.trans s2)
  | no => exact h
theorem Po.imp {r : Res α} {Q Q' : β → Hp → Prop} (h : Po T F W rel r g σ H Q) (k : ∀ b H', Q b H' → Q' b H') : Po T F W rel r g σ H Q' := by
  cases r with
  | ok a ρ' => exact fun b g2 H2 s2 e2 r2 => k _ _ (h b g2 H2 s2 e2 r2)
  | ex x ρ' => exact h
  | no => exact h
/-- the first part of a whole: what is left is asked of what it gives -/
theorem Po.bind {r : Res α} {k : α → List Sl → Res γ} {Q : δ → Hp → Prop} {Q1 : β → Hp → Prop} (h : Po T F W rel2 (r.bind k) g σ H Q)
    (hk : ∀ a ρ1 g1 H1 b, Stp F g H g1 H1 → SR T F g1 ρ1 σ H1 → rel a ρ1 g1 σ H1 b → Po T F W rel2 (k a ρ1) g1 σ H1 Q → Q1 b H1) : Po T F W rel r g σ H Q1 := by
  cases r with
  | ok a ρ1 => exact fun b g1 H1 s1 e1 r1 => hk a ρ1 g1 H1 b s1 e1 r1 (Po.step h s1)
  | ex x ρ' => exact h
  | no => exact h
theorem den.bind {t : List Sl → Res α} {k : α → List Sl → Res γ} {Q : δ → Hp → Prop} {Q1 : β → Hp → Prop} (h : den T F W rel2 (fun ρ => (t ρ).bind k) σ H Q)
    (hk : ∀ a ρ1 g0 H0 g1 H1 b, Stp F g0 H0 g1 H1 → SR T F g1 ρ1 σ H1 → rel a ρ1 g1 σ H1 b → Po T F W rel2 (k a ρ1) g1 σ H1 Q → Q1 b H1) : den T F W rel t σ H Q1 := by
  obtain ⟨g, ρ, s, p⟩ := h
  exact ⟨g, ρ, s, Po.bind p fun a ρ1 g1 H1 b => hk a ρ1 g H g1 H1 b⟩
/-- what follows, from where the first part ended -/
theorem den.go {t : List Sl → Res α} {Q : β → Hp → Prop} (s : SR T F g ρ σ H) (p : Po T F W rel (t ρ) g σ H Q) : den T F W rel t σ H Q := ⟨g, ρ, s, p⟩
theorem Po.ok {a : α} {Q : β → Hp → Prop} {b : β} (p : Po T F W rel (.ok a ρ) g σ H Q) (s : SR T F g ρ σ H) (r : rel a ρ g σ H b) : Q b H := p b g H .refl s r
theorem Po.of {o : Option α} {Q : β → Hp → Prop} (p : Po T F W rel (Res.of o ρ) g σ H Q) : ∃ a, o = some a ∧ Po T F W rel (.ok a ρ) g σ H Q := by
  cases o with
  | none => exact p.elim
  | some a => exact ⟨a, rfl, p⟩
end

def rV (T : Tx) (d : D) (_ : List Sl) (g : Gh) (_ : St) (H : Hp) (v : V) : Prop := R T H g.Z v d
def rO (T : Tx) (o : Od) (_ : List Sl) (g : Gh) (σ : St) (H : Hp) (v : V) : Prop := match o with
  | .v d => R T H g.Z v d
  | .s i => σ[i]? = some (some v)
def rA (T : Tx) (ds : List D) (_ : List Sl) (g : Gh) (_ : St) (H : Hp) (vs : List V) : Prop := RA T H g.Z vs ds
def rB (b : Bool) (_ : List Sl) (_ : Gh) (_ : St) (_ : Hp) (v : Bool) : Prop := v = b
/-- a new thing that nobody else knows -/
def rF (T : Tx) (F : Fm) (d : D) (ρ : List Sl) (g : Gh) (_ : St) (H : Hp) (v : V) : Prop :=
  ∃ fp, Own T H g.Z v d fp ∧ (∀ a ∈ fp, g.Z a ∧ ¬ F.Y a) ∧ ∀ (i : Nat) (e : D), ρ[i]? = some (Sl.ow e) → ∀ a ∈ g.fp i, a ∉ fp

section
variable (T : Tx) (F : Fm) (W : Value → Option Addr → St → Hp → Prop) (X : Cx)
def SE (e : Expr) (t : EE) : Prop := PE X e (den T F W (rV T) t)
def SO (e : Expr) (t : EO) : Prop := PE X e (den T F W (rO T) t)
def SN (e : Expr) (t : EE) : Prop := PE X e (den T F W (rF T F) t)
def SA (es : List Expr) (t : EA) : Prop := PA X es (den T F W (rA T) t)
def ST (e : Expr) (t : List Sl → Res Bool) : Prop := PT X e (den T F W rB t)
end

section
variable {T : Tx} {F : Fm} {g g' : Gh} {σ : St} {H H' : Hp} {ρ ρ' : List Sl}
theorem rO.step {o : Od} {v : V} (h : rO T o ρ g σ H v) (s : Stp F g H g' H') : rO T o ρ' g' σ H' v := by
  cases o with
  | v d => exact R.step s.st h
  | s i => exact h
/-- a thing that can be read: it stays, or it is a slot's own -/
def Rv (T : Tx) (H : Hp) (Z : Zs) (v : V) (d : D) : Prop := R T H Z v d ∨ ∃ fp, Own T H Z v d fp
theorem rO.rv {o : Od} {v : V} {d : D} (h : rO T o ρ' g σ H v) (s : SR T F g ρ σ H) (e : o.get ρ = some d) : Rv T H g.Z v d := by
  cases o with
  | v d' => cases e; exact .inl h
  | s i =>
    simp only [Od.get, List.getD_eq_getElem?_getD] at e
    cases q : ρ[i]? with
    | none => rw [q] at e; cases e
    | some sl =>
      rw [q] at e
      cases sl with
      | no => cases e
      | fz d' =>
        cases e
        obtain ⟨w, hw, r⟩ := s.fz i d q
        rw [show σ[i]? = some (some v) from h] at hw; cases hw; exact .inl r
      | ow d' =>
        cases e
        obtain ⟨w, hw, r, _⟩ := s.ow i d q
        rw [show σ[i]? = some (some v) from h] at hw; cases hw; exact .inr ⟨_, r⟩
end
end Lc
namespace Lc
open PySem L2

section
variable {T : Tx} {H H' : Hp} {Z Z' : Zs} {v : V} {d : D}
theorem RA.len : ∀ {vs : List V} {ds : List D}, RA T H Z vs ds → vs.length = ds.length
  | _, _, .nil => rfl
  | _, _, .cons _ t => congrArg (· + 1) (RA.len t)
theorem RA.app : ∀ {vs ws : List V} {ds es : List D}, RA T H Z vs ds → RA T H Z ws es → RA T H Z (vs ++ ws) (ds ++ es)
  | _, _, _, _, .nil, h => h
  | _, _, _, _, .cons r t, h => .cons r (RA.app t h)
theorem RA.get : ∀ {vs : List V} {ds : List D}, RA T H Z vs ds → ∀ {i : Nat} {d : D}, ds[i]? = some d → ∃ v, vs[i]? = some v ∧ R T H Z v d
  | _, _, .nil, i, d, h => by simp at h
  | _, _, .cons r t, 0, d, h => by simp at h; subst h; exact ⟨_, rfl, r⟩
  | _, _, .cons r t, i + 1, d, h => by simpa using RA.get t (by simpa using h)
theorem RA.getV : ∀ {vs : List V} {ds : List D}, RA T H Z vs ds → ∀ {i : Nat} {v : V}, vs[i]? = some v → ∃ d, ds[i]? = some d ∧ R T H Z v d
  | _, _, .nil, i, d, h => by simp at h
  | _, _, .cons r t, 0, d, h => by simp at h; subst h; exact ⟨_, rfl, r⟩
  | _, _, .cons r t, i + 1, d, h => by simpa using RA.getV t (by simpa using h)
theorem RA.of : ∀ {vs : List V} {ds : List D}, vs.length = ds.length → (∀ (i : Nat) v d, vs[i]? = some v → ds[i]? = some d → R T H Z v d) → RA T H Z vs ds
  | [], [], _, _ => .nil
  | v :: vs, d :: ds, h, k => .cons (k 0 v d rfl rfl) (RA.of (by simpa using h) fun i v d a b => k (i + 1) v d (by simpa using a) (by simpa using b))
theorem RA.take : ∀ {vs : List V} {ds : List D} (n : Nat), RA T H Z vs ds → RA T H Z (vs.take n) (ds.take n)
  | _, _, 0, _ => by simp; exact .nil
  | _, _, n + 1, .nil => by simp; exact .nil
  | _, _, n + 1, .cons r t => by simpa using RA.cons r (RA.take n t)
theorem RA.drop : ∀ {vs : List V} {ds : List D} (n : Nat), RA T H Z vs ds → RA T H Z (vs.drop n) (ds.drop n)
  | _, _, 0, h => by simpa using h
  | _, _, n + 1, .nil => by simp; exact .nil
  | _, _, n + 1, .cons r t => by simpa using RA.drop n t
theorem RA.rev : ∀ {vs : List V} {ds : List D}, RA T H Z vs ds → RA T H Z vs.reverse ds.reverse
  | _, _, .nil => .nil
  | _, _, .cons r t => by simpa using RA.app (RA.rev t) (.cons r .nil)
theorem RA.rep {vs : List V} {ds : List D} (h : RA T H Z vs ds) : ∀ k : Nat, RA T H Z (List.replicate k vs).flatten (List.replicate k ds).flatten
  | 0 => .nil
  | k + 1 => by rw [List.replicate_succ, List.replicate_succ, List.flatten_cons, List.flatten_cons]; exact h.app (RA.rep h k)
theorem RA.set : ∀ {vs : List V} {ds : List D} (i : Nat) {v : V} {d : D}, RA T H Z vs ds → R T H Z v d → RA T H Z (vs.set i v) (ds.set i d)
  | _, _, _, _, _, .nil, _ => by simp; exact .nil
  | _, _, 0, _, _, .cons r t, q => .cons q t
  | _, _, i + 1, _, _, .cons r t, q => .cons r (RA.set i t q)
theorem RA.one {v : V} {d : D} (h : R T H Z v d) : RA T H Z [v] [d] := .cons h .nil
theorem RA.ints : ∀ {vs : List V} {ds : List D} {ns : List Int}, RA T H Z vs ds → D.ints ds = some ns → vs = ns.map V.int
  | _, _, _, .nil, h => by cases h; rfl
  | _, _, ns, .cons r t, h => by
    cases r <;> simp only [D.ints, Option.map_eq_some_iff, reduceCtorEq] at h
    obtain ⟨r, h, rfl⟩ := h
    rw [RA.ints t h]; rfl
theorem RA.strs : ∀ {vs : List V} {ds : List D} {ns : List Str}, RA T H Z vs ds → D.strs ds = some ns → vs = ns.map V.str
  | _, _, _, .nil, h => by cases h; rfl
  | _, _, ns, .cons r t, h => by
    cases r <;> simp only [D.strs, Option.map_eq_some_iff, reduceCtorEq] at h
    obtain ⟨r, h, rfl⟩ := h
    rw [RA.strs t h]; rfl
theorem RA.bls : ∀ {vs : List V} {ds : List D} {ns : List Bool}, RA T H Z vs ds → D.bls ds = some ns → vs = ns.map V.bl
  | _, _, _, .nil, h => by cases h; rfl
  | _, _, ns, .cons r t, h => by
    cases r <;> simp only [D.bls, Option.map_eq_some_iff, reduceCtorEq] at h
    obtain ⟨r, h, rfl⟩ := h
    rw [RA.bls t h]; rfl
theorem RA.ofInts : ∀ (ns : List Int), RA T H Z (ns.map V.int) (ns.map D.int)
  | [] => .nil
  | n :: r => .cons (.int n) (RA.ofInts r)
theorem RA.ofStrs : ∀ (ns : List Str), RA T H Z (ns.map V.str) (ns.map D.str)
  | [] => .nil
  | n :: r => .cons (.str n) (RA.ofStrs r)

theorem sqt_any {K : PySem.W.Frag} {a : Addr} {xs : List V} (h : SqT K H0 a xs) (H : Hp) : SqT K H a xs := by
  rcases h with (h | ⟨o, h⟩) | h
  · cases h
  · cases h
  · exact .inr h
theorem sql_any {K : PySem.W.Frag} {a : Addr} {xs : List V} (h : SqL K H0 a xs) (H : Hp) : SqL K H a xs := by
  rcases h with (h | ⟨o, h⟩) | h
  · cases h
  · cases h
  · exact .inr h
theorem FT.sq {a : Addr} {xs : List V} (h : FT T H Z a xs) : SqT T.K H a xs := by
  rcases h with ⟨h, _⟩ | ⟨_, h⟩
  · exact .inl (.inl h)
  · exact sqt_any h H
theorem FS.sq {a : Addr} {xs : List V} (h : FS T H a xs) : SqL T.K H a xs := by
  rcases h with ⟨o, h⟩ | h
  · exact .inl (.inr ⟨o, h⟩)
  · exact sql_any h H
theorem Rv.of (h : R T H Z v d) : Rv T H Z v d := .inl h
theorem Rv.int {i : Int} (h : Rv T H Z v (.int i)) : v = .int i := by
  rcases h with h | ⟨fp, h⟩ <;> cases h; rfl
theorem Rv.str {i : Str} (h : Rv T H Z v (.str i)) : v = .str i := by
  rcases h with h | ⟨fp, h⟩ <;> cases h; rfl
theorem Rv.bl {i : Bool} (h : Rv T H Z v (.bl i)) : v = .bl i := by
  rcases h with h | ⟨fp, h⟩ <;> cases h; rfl
theorem Rv.non (h : Rv T H Z v .non) : v = .non := by
  rcases h with h | ⟨fp, h⟩ <;> cases h; rfl
theorem Rv.tup {ds : List D} (h : Rv T H Z v (.tup ds)) : ∃ a xs, v = .ref a ∧ FT T H Z a xs ∧ SqT T.K H a xs ∧ RA T H Z xs ds := by
  rcases h with h | ⟨fp, h⟩
  · cases h with | tup h r => exact ⟨_, _, rfl, h, h.sq, r⟩
  · cases h
theorem Rv.lst {ds : List D} (h : Rv T H Z v (.lst ds)) : ∃ a xs, v = .ref a ∧ H a = some (.lst xs) ∧ RA T H Z xs ds := by
  rcases h with h | ⟨fp, h⟩
  · cases h with | lst h _ r => exact ⟨_, _, rfl, h, r⟩
  · cases h with | lst h r => exact ⟨_, _, rfl, h, r⟩
theorem Rv.dk {kvs : List (Key × D)} (h : Rv T H Z v (.dk kvs)) : ∃ a ws, v = .ref a ∧ Rd H a (.dK ws) ∧ ws.map (·.1) = kvs.map (·.1) ∧ RA T H Z (ws.map (·.2)) (kvs.map (·.2)) := by
  rcases h with h | ⟨fp, h⟩
  · cases h with | dk h _ k r => exact ⟨_, _, rfl, h, k, r⟩
  · cases h with | dk h k r => exact ⟨_, _, rfl, .inl h, k, r⟩
theorem Rv.dt {kvs : List (List Key × D)} (h : Rv T H Z v (.dt kvs)) : ∃ a ws, v = .ref a ∧ Rd H a (.dT ws) ∧ ws.map (·.1) = kvs.map (·.1) ∧ RA T H Z (ws.map (·.2)) (kvs.map (·.2)) := by
  rcases h with h | ⟨fp, h⟩
  · cases h with | dt h _ k r => exact ⟨_, _, rfl, h, k, r⟩
  · cases h with | dt h k r => exact ⟨_, _, rfl, .inl h, k, r⟩
theorem Rv.ins {c : Nat} {fs : List (Str × D)} (h : Rv T H Z v (.ins c fs)) : ∃ a dx ws, v = .ref a ∧ H a = some (.ins (T.cl c) dx ws) ∧ H dx = some (.own a) ∧ ws.map (·.1) = fs.map (·.1) ∧ RA T H Z (ws.map (·.2)) (fs.map (·.2)) := by
  rcases h with h | ⟨fp, h⟩
  · cases h with | ins h _ h2 _ k r => exact ⟨_, _, _, rfl, h, h2, k, r⟩
  · cases h with | ins h h2 k r => exact ⟨_, _, _, rfl, h, h2, k, r⟩
theorem Rv.scr {ns : List Int} (h : Rv T H Z v (.scr ns)) : ∃ a, v = .ref a ∧ SqL T.K H a (ns.map V.int) := by
  rcases h with h | ⟨fp, h⟩
  · cases h with | scr h => exact ⟨_, rfl, h.sq⟩
  · cases h
/-- a row of values -/
theorem Rv.seq {ds : List D} (h : Rv T H Z v d) (e : d.seq? = some ds) : ∃ a xs, v = .ref a ∧ (SqL T.K H a xs ∨ SqT T.K H a xs) ∧ RA T H Z xs ds := by
  cases d <;> cases e
  · obtain ⟨a, xs, rfl, _, h, r⟩ := h.tup; exact ⟨a, xs, rfl, .inr h, r⟩
  · obtain ⟨a, xs, rfl, h, r⟩ := h.lst; exact ⟨a, xs, rfl, .inl (.of h), r⟩
theorem R.flat (h : Rv T H Z v d) (f : d.flat = true) : flatV v = true := by
  cases d <;> cases f
  · cases h.non; rfl
  · cases h.bl; rfl
  · cases h.int; rfl
  · cases h.str; rfl
theorem R.newT {p : Addr} {xs : List V} {ds : List D} (h : H p = none) (z : ∀ a, Z a → H a ≠ none) (r : RA T H Z xs ds) : R T (upd H p (.tup xs)) Z (.ref p) (.tup ds) :=
  .tup (.inl ⟨upd_same, fun q => z p q h⟩) (RA.step (Gr.alloc h).step r)
theorem R.newL {p : Addr} {xs : List V} {ds : List D} (h : H p = none) (z : ∀ a, Z a → H a ≠ none) (r : RA T H Z xs ds) : R T (upd H p (.lst xs)) Z (.ref p) (.lst ds) :=
  .lst upd_same (fun q => z p q h) (RA.step (Gr.alloc h).step r)
end

section
variable {T : Tx} {F : Fm} {g : Gh} {σ : St} {H H' : Hp} {ρ : List Sl}
theorem Own.step {Z Z' : Zs} {v : V} {d : D} {fp : List Addr} (s : Step H Z H' Z') (h : Own T H Z v d fp) (k : ∀ a ∈ fp, H' a = H a) : Own T H' Z' v d fp := by
  cases h with
  | lst h r => exact .lst ((k _ (by simp)).trans h) (RA.step s r)
  | dk h e r => exact .dk ((k _ (by simp)).trans h) e (RA.step s r)
  | dt h e r => exact .dt ((k _ (by simp)).trans h) e (RA.step s r)
  | ins h h2 e r => exact .ins ((k _ (by simp)).trans h) ((k _ (by simp)).trans h2) e (RA.step s r)
  | om h h2 h3 e1 => exact .om ((k _ (by simp)).trans h) ((k _ (by simp)).trans h2) (R.step s h3) e1
theorem Own.some {Z : Zs} {v : V} {d : D} {fp : List Addr} (h : Own T H Z v d fp) : ∀ a ∈ fp, ∃ o, H a = some o := by
  cases h with
  | lst h r => intro a ha; simp at ha; subst ha; exact ⟨_, h⟩
  | dk h e r => intro a ha; simp at ha; subst ha; exact ⟨_, h⟩
  | dt h e r => intro a ha; simp at ha; subst ha; exact ⟨_, h⟩
  | ins h h2 e r =>
    intro a ha; simp at ha
    rcases ha with rfl | rfl
    · exact ⟨_, h⟩
    · exact ⟨_, h2⟩
  | om h h2 h3 e1 =>
    intro a ha; simp at ha
    rcases ha with rfl | rfl
    · exact ⟨_, h⟩
    · exact ⟨_, h2⟩
theorem SR.gr (s : SR T F g ρ σ H) (gr : Gr H H') : SR T F g ρ σ H' where
  len := s.len
  fz := fun i d e => by
    obtain ⟨v, a, r⟩ := s.fz i d e
    exact ⟨v, a, R.step gr.step r⟩
  ow := fun i d e => by
    obtain ⟨v, a, r, q⟩ := s.ow i d e
    refine ⟨v, a, r.step gr.step (fun b hb => ?_), q⟩
    obtain ⟨o, ho⟩ := r.some b hb
    rw [ho, gr b o ho]
  dj := s.dj
  yz := s.yz
  zl := fun a z e => by
    cases q : H a with
    | none => exact s.zl a z q
    | some o => rw [gr a o q] at e; cases e
  pin := s.pin
theorem Stp.gr (gr : Gr H H') (s : SR T F g ρ σ H) : Stp F g H g H' := ⟨gr.step, fun a y => by
  cases q : H a with
  | none => exact absurd q (s.zl a (s.yz a y))
  | some o => rw [gr a o q]⟩
end

theorem pe_imp {X : Cx} {e : Expr} {t t' : TE} (h : PE X e t) (k : ∀ σ H Q, t' σ H Q → t σ H Q) : PE X e t' := ⟨fun pins s σ H Q I q => h.run pins s σ H Q I (k _ _ _ q)⟩
theorem pt_imp {X : Cx} {e : Expr} {t t' : TT} (h : PT X e t) (k : ∀ σ H Q, t' σ H Q → t σ H Q) : PT X e t' := ⟨fun pins s σ H Q I q => h.run pins s σ H Q I (k _ _ _ q)⟩
theorem pa_imp {X : Cx} {e : List Expr} {t t' : TA} (h : PA X e t) (k : ∀ σ H Q, t' σ H Q → t σ H Q) : PA X e t' := ⟨fun pos pins s σ H Q I q => h.run pos pins s σ H Q I (k _ _ _ q)⟩

/-- what two things give, by a function of their data -/
def rD2 (T : Tx) (f : D → D → Option D) : R2 := fun x y H Q => ∃ (Z : Zs) (dx dy d : D), (∀ a, Z a → H a ≠ none) ∧ Rv T H Z x dx ∧ Rv T H Z y dy ∧ f dx dy = some d ∧ ∀ v H', Gr H H' → R T H' Z v d → Q v H'
def rD1 (T : Tx) (f : D → Option D) : V → Hp → VK → Prop := fun x H Q => ∃ (Z : Zs) (dx d : D), (∀ a, Z a → H a ≠ none) ∧ Rv T H Z x dx ∧ f dx = some d ∧ ∀ v H', Gr H H' → R T H' Z v d → Q v H'
def eOp2 (f : D → D → Option D) (ta tb : EO) : EE := fun ρ => (ta ρ).bind fun a ρ => (tb ρ).bind fun b ρ => Res.of ((a.get ρ).bind fun x => (b.get ρ).bind fun y => f x y) ρ
def eOp1 (f : D → Option D) (ta : EO) : EE := fun ρ => (ta ρ).bind fun a ρ => Res.of ((a.get ρ).bind f) ρ

section
variable {T : Tx} {F : Fm} {W : Value → Option Addr → St → Hp → Prop} {X : Cx} {e a b : Expr} {ta tb : EO} {f : D → D → Option D} {f1 : D → Option D}
theorem s_op2 (ha : SO T F W X a ta) (hb : SO T F W X b tb) (mk : ∀ ta tb, PE X a ta → PE X b tb → PE X e (tOp (rD2 T f) ta tb)) : SE T F W X e (eOp2 f ta tb) := by
  refine pe_imp (mk _ _ ha hb) fun σ H Q h => ?_
  refine den.bind h fun oa ρ1 g0 H0 g1 H1 x s1 e1 r1 p1 => ?_
  refine ⟨g1, ρ1, e1, Po.bind p1 fun ob ρ2 g2 H2 y s2 e2 r2 p2 => ?_⟩
  obtain ⟨d, hd, p3⟩ := Po.of p2
  cases q1 : oa.get ρ2 with
  | none => rw [q1] at hd; cases hd
  | some dx =>
    rw [q1] at hd
    cases q2 : ob.get ρ2 with
    | none => rw [q2] at hd; cases hd
    | some dy =>
      rw [q2] at hd
      exact ⟨g2.Z, dx, dy, d, e2.zl, (rO.step (ρ' := ρ2) r1 s2).rv e2 q1, r2.rv e2 q2, hd, fun v H' gr r => p3 v g2 H' (.gr gr e2) (e2.gr gr) r⟩
theorem s_op1 (ha : SO T F W X a ta) (mk : ∀ ta, PE X a ta → PE X e (tUn (rD1 T f1) ta)) : SE T F W X e (eOp1 f1 ta) := by
  refine pe_imp (mk _ ha) fun σ H Q h => ?_
  refine den.bind h fun oa ρ1 g1 H1 g2 H2 x s1 e1 r1 p1 => ?_
  obtain ⟨d, hd, p3⟩ := Po.of p1
  cases q1 : oa.get ρ1 with
  | none => rw [q1] at hd; cases hd
  | some dx =>
    rw [q1] at hd
    exact ⟨g2.Z, dx, d, e1.zl, r1.rv e1 q1, hd, fun v H' gr r => p3 v g2 H' (.gr gr e1) (e1.gr gr) r⟩
end
end Lc
namespace Lc
open PySem L2

section
variable {T : Tx} {H : Hp} {Z : Zs}
mutual
theorem R.dp : ∀ {v : V} {d : D} {p : PyData}, R T H Z v d → d.py = some p → Dp T.K H v p
  | _, _, _, .non, e => by cases e; exact .non
  | _, _, _, .bl b, e => by cases e; exact .bl b
  | _, _, _, .int b, e => by cases e; exact .int b
  | _, _, _, .str b, e => by cases e; exact .str b
  | _, _, _, .tup h r, e => by
    simp only [D.py, Option.map_eq_some_iff] at e
    obtain ⟨ps, e, rfl⟩ := e
    exact .tup h.sq (RA.dp r e)
  | _, _, _, .lst h _ r, e => by
    simp only [D.py, Option.map_eq_some_iff] at e
    obtain ⟨ps, e, rfl⟩ := e
    exact .lst (.of h) (RA.dp r e)
  | _, _, _, .dk .., e => by cases e
  | _, _, _, .dt .., e => by cases e
  | _, _, _, .ins .., e => by cases e
  | _, _, _, .scr .., e => by cases e
theorem RA.dp : ∀ {vs : List V} {ds : List D} {ps : List PyData}, RA T H Z vs ds → D.pys ds = some ps → DpAll T.K H vs ps
  | _, _, _, .nil, e => by cases e; exact .nil
  | _, _, _, .cons r t, e => by
    simp only [D.pys] at e
    split at e
    · cases e; rename_i p ps e1 e2; exact .cons (R.dp r e1) (RA.dp t e2)
    · cases e
end
theorem Rv.dp {v : V} {d : D} {p : PyData} (h : Rv T H Z v d) (e : d.py = some p) : Dp T.K H v p := by
  rcases h with h | ⟨fp, h⟩
  · exact h.dp e
  · cases h with
    | lst h r =>
      simp only [D.py, Option.map_eq_some_iff] at e
      obtain ⟨ps, e, rfl⟩ := e
      exact .lst (.of h) (r.dp e)
    | dk => cases e
    | dt => cases e
    | ins => cases e
    | om => cases e
theorem kfind_rel {κ : Type} [DecidableEq κ] : ∀ {ws : List (κ × V)} {kvs : List (κ × D)} (k : κ), ws.map (·.1) = kvs.map (·.1) → RA T H Z (ws.map (·.2)) (kvs.map (·.2)) →
    (kfind kvs k = none ∧ valV ws k = none) ∨ ∃ d v, kfind kvs k = some d ∧ valV ws k = some v ∧ R T H Z v d
  | [], [], k, _, _ => .inl ⟨rfl, rfl⟩
  | [], _ :: _, _, e, _ => by cases e
  | _ :: _, [], _, e, _ => by cases e
  | (k1, v) :: ws, (k2, d) :: kvs, k, e, .cons r t => by
    simp only [List.map_cons, List.cons.injEq] at e
    obtain ⟨rfl, e⟩ := e
    by_cases q : k1 = k
    · exact .inr ⟨d, v, by simp [kfind, List.find?_cons, q], valV_pos q, r⟩
    · rcases kfind_rel k e t with ⟨a, b⟩ | ⟨d', v', a, b, c⟩
      · exact .inl ⟨by simpa [kfind, List.find?_cons, q] using a, by rw [valV_neg q]; exact b⟩
      · exact .inr ⟨d', v', by simpa [kfind, List.find?_cons, q] using a, by rw [valV_neg q]; exact b, c⟩
theorem keyOf_rel {v : V} {d : D} {k : Key} (h : Rv T H Z v d) (e : keyOf d = some k) : v = kV k := by
  cases d <;> simp only [keyOf, reduceCtorEq, Option.some.injEq] at e
  · subst e; exact h.int
  · subst e; exact h.str
theorem keysOf_rel : ∀ {vs : List V} {ds : List D} {ks : List Key}, RA T H Z vs ds → keysOf ds = some ks → vs = ks.map kV
  | _, _, _, .nil, e => by cases e; rfl
  | _, _, _, .cons r t, e => by
    simp only [keysOf] at e
    split at e
    · cases e; rename_i k ks e1 e2; rw [keyOf_rel (.inl r) e1, keysOf_rel t e2]; rfl
    · cases e
end

section
variable {T : Tx} {X : Cx} (hK : X.K = T.K)
include hK
theorem opr_add : OpR X (binaryOp .Add) (rD2 T D.addD) := by
  intro pins s σ H x y v u Q I rx ry ⟨Z, dx, dy, d, z, hx, hy, hd, k⟩
  unfold D.addD at hd
  have hl : LIM ≤ sizeLine := by decide
  split at hd
  · cases hd; cases hx.int; cases hy.int
    exact op_add pins s σ H _ _ v u Q I rx ry ⟨_, _, rfl, rfl, k _ _ (.refl _) (.int _)⟩
  · split at hd
    · cases hd; cases hx.str; cases hy.str
      rename_i e
      exact op_add_str pins s σ H _ _ v u Q I rx ry ⟨_, _, rfl, rfl, Nat.le_trans e hl, k _ _ (.refl _) (.str _)⟩
    · cases hd
  · split at hd
    · cases hd
      rename_i e
      obtain ⟨a, xs, rfl, f1, h1, r1⟩ := hx.tup
      obtain ⟨b, ys, rfl, f2, h2, r2⟩ := hy.tup
      refine op_catA pins s σ H _ _ v u Q I rx ry ⟨a, b, xs, ys, rfl, rfl, by rw [hK]; exact h1, by rw [hK]; exact h2, by rw [r1.len, r2.len]; exact Nat.le_trans e hl, ?_, ?_, ?_⟩
      · intro e; subst e; cases r1; exact k _ _ (.refl _) (.tup f2 r2)
      · intro _ e; subst e; cases r2; rw [List.append_nil] at k; exact k _ _ (.refl _) (.tup f1 r1)
      · intro _ _ p hp; exact k _ _ (.alloc hp) (R.newT hp z (r1.app r2))
    · cases hd
  · split at hd
    · cases hd
      rename_i e
      obtain ⟨a, xs, rfl, h1, r1⟩ := hx.lst
      obtain ⟨b, ys, rfl, h2, r2⟩ := hy.lst
      exact op_cat pins s σ H _ _ v u Q I rx ry ⟨a, b, xs, ys, rfl, rfl, h1, h2, by rw [r1.len, r2.len]; exact Nat.le_trans e hl, fun p hp => k _ _ (.alloc hp) (R.newL hp z (r1.app r2))⟩
    · cases hd
  · cases hd
omit hK in
theorem opr_sub : OpR X (binaryOp .Sub) (rD2 T D.subD) := by
  intro pins s σ H x y v u Q I rx ry ⟨Z, dx, dy, d, z, hx, hy, hd, k⟩
  unfold D.subD at hd
  split at hd
  · cases hd; cases hx.int; cases hy.int
    exact op_sub pins s σ H _ _ v u Q I rx ry ⟨_, _, rfl, rfl, k _ _ (.refl _) (.int _)⟩
  · cases hd
omit hK in
theorem opr_mul : OpR X (binaryOp .Mult) (rD2 T D.mulD) := by
  intro pins s σ H x y v u Q I rx ry ⟨Z, dx, dy, d, z, hx, hy, hd, k⟩
  unfold D.mulD at hd
  split at hd
  · split at hd
    · cases hd; cases hx.int; cases hy.int
      rename_i e
      refine op_mul pins s σ H _ _ v u Q I rx ry ⟨_, _, rfl, rfl, ?_, k _ _ (.refl _) (.int _)⟩
      simpa [okMul, CMul] using e
    · cases hd
  · split at hd
    · cases hd; cases hy.int
      rename_i e
      obtain ⟨a, xs, rfl, h1, r1⟩ := hx.lst
      refine op_rep pins s σ H _ _ v u Q I rx ry ⟨a, _, xs, rfl, rfl, h1, by omega, by omega, ?_, fun p hp => k _ _ (.alloc hp) (R.newL hp z (r1.rep _))⟩
      rw [r1.len]
      have h1 := e.2.2
      have h2 := e.2.1
      rename_i kk _
      have h3 : kk.toNat ≤ 1000 := by omega
      exact Nat.le_trans (Nat.mul_le_mul h1 h3) (by decide)
    · cases hd
  · cases hd
omit hK in
theorem opr_fdiv : OpR X (binaryOp .FloorDiv) (rD2 T D.fdivD) := by
  intro pins s σ H x y v u Q I rx ry ⟨Z, dx, dy, d, z, hx, hy, hd, k⟩
  unfold D.fdivD at hd
  split at hd
  · split at hd
    · cases hd; cases hx.int; cases hy.int
      rename_i e
      exact op_fdiv pins s σ H _ _ v u Q I rx ry ⟨_, _, rfl, rfl, e, k _ _ (.refl _) (.int _)⟩
    · cases hd
  · cases hd
omit hK in
theorem opr_mod : OpR X (binaryOp .Mod) (rD2 T D.modD) := by
  intro pins s σ H x y v u Q I rx ry ⟨Z, dx, dy, d, z, hx, hy, hd, k⟩
  unfold D.modD at hd
  split at hd
  · split at hd
    · cases hd; cases hx.int; cases hy.int
      rename_i e
      exact op_mod pins s σ H _ _ v u Q I rx ry ⟨_, _, rfl, rfl, e, k _ _ (.refl _) (.int _)⟩
    · cases hd
  · cases hd
omit hK in
theorem opr_pow : OpR X (binaryOp .Pow) (rD2 T D.powD) := by
  intro pins s σ H x y v u Q I rx ry ⟨Z, dx, dy, d, z, hx, hy, hd, k⟩
  unfold D.powD at hd
  split at hd
  · split at hd
    · cases hd; cases hx.int; cases hy.int
      rename_i e
      refine op_pow pins s σ H _ _ v u Q I rx ry ⟨_, _, rfl, rfl, ⟨e.1, by omega, ?_⟩, k _ _ (.refl _) (.int _)⟩
      have h1 := e.2.2.1
      have h2 := e.2.2.2
      exact Nat.lt_of_lt_of_le (show Int.natAbs _ < 1000 by omega) (by decide)
    · cases hd
  · cases hd
theorem opr_eq (hu : X.A.units + 64 < cLine) : OpR X (compareOp .Eq) (rD2 T D.eqD) := by
  intro pins s σ H x y v u Q I rx ry ⟨Z, dx, dy, d, z, hx, hy, hd, k⟩
  simp only [D.eqD, oB, Option.map_eq_some_iff] at hd
  obtain ⟨b, hd, rfl⟩ := hd
  unfold D.eqB at hd
  split at hd
  · split at hd
    · cases hd
      rename_i p q e1 e2 e
      rw [Bool.and_eq_true] at e
      exact op_eqD hu pins s σ H _ _ v u Q I rx ry ⟨p, q, by rw [hK]; exact hx.dp e1, by rw [hK]; exact hy.dp e2, e.1, e.2, k _ _ (.refl _) (.bl _)⟩
    · cases hd
  · cases hd
theorem opr_ne (hu : X.A.units + 64 < cLine) : OpR X (compareOp .NotEq) (rD2 T D.neD) := by
  intro pins s σ H x y v u Q I rx ry ⟨Z, dx, dy, d, z, hx, hy, hd, k⟩
  simp only [D.neD, oB, Option.map_eq_some_iff] at hd
  obtain ⟨b, ⟨b', hd, rfl⟩, rfl⟩ := hd
  unfold D.eqB at hd
  split at hd
  · split at hd
    · cases hd
      rename_i p q e1 e2 e
      rw [Bool.and_eq_true] at e
      exact op_neD hu pins s σ H _ _ v u Q I rx ry ⟨p, q, by rw [hK]; exact hx.dp e1, by rw [hK]; exact hy.dp e2, e.1, e.2, k _ _ (.refl _) (.bl _)⟩
    · cases hd
  · cases hd
theorem opr_lt (hu : X.A.units < cLine) : OpR X (compareOp .Lt) (rD2 T D.ltD) := by
  intro pins s σ H x y v u Q I rx ry ⟨Z, dx, dy, d, z, hx, hy, hd, k⟩
  simp only [D.ltD, oB, Option.map_eq_some_iff] at hd
  obtain ⟨b, hd, rfl⟩ := hd
  unfold D.ltB at hd
  split at hd
  · cases hd; cases hx.int; cases hy.int
    exact op_lt pins s σ H _ _ v u Q I rx ry ⟨_, _, rfl, rfl, k _ _ (.refl _) (.bl _)⟩
  · cases hd; cases hx.str; cases hy.str
    exact op_lt_str pins s σ H _ _ v u Q I rx ry ⟨_, _, rfl, rfl, k _ _ (.refl _) (.bl _)⟩
  · split at hd
    · cases hd
      rename_i ns ms e1 e2
      obtain ⟨a, xs, rfl, f1, h1, r1⟩ := hx.tup
      obtain ⟨b, ys, rfl, f2, h2, r2⟩ := hy.tup
      refine op_ltT hu pins s σ H _ _ v u Q I rx ry ⟨a, b, ns, ms, rfl, rfl, ?_, ?_, k _ _ (.refl _) (.bl _)⟩
      · rw [hK, ← r1.ints e1]; exact h1
      · rw [hK, ← r2.ints e2]; exact h2
    · cases hd
  · cases hd
omit hK in
theorem opr_le : OpR X (compareOp .LtE) (rD2 T D.leD) := by
  intro pins s σ H x y v u Q I rx ry ⟨Z, dx, dy, d, z, hx, hy, hd, k⟩
  unfold D.leD at hd
  split at hd
  · cases hd; cases hx.int; cases hy.int
    exact op_le pins s σ H _ _ v u Q I rx ry ⟨_, _, rfl, rfl, k _ _ (.refl _) (.bl _)⟩
  · cases hd
omit hK in
theorem opr_gt : OpR X (compareOp .Gt) (rD2 T D.gtD) := by
  intro pins s σ H x y v u Q I rx ry ⟨Z, dx, dy, d, z, hx, hy, hd, k⟩
  unfold D.gtD at hd
  split at hd
  · cases hd; cases hx.int; cases hy.int
    exact op_gt pins s σ H _ _ v u Q I rx ry ⟨_, _, rfl, rfl, k _ _ (.refl _) (.bl _)⟩
  · cases hd
omit hK in
theorem opr_ge : OpR X (compareOp .GtE) (rD2 T D.geD) := by
  intro pins s σ H x y v u Q I rx ry ⟨Z, dx, dy, d, z, hx, hy, hd, k⟩
  unfold D.geD at hd
  split at hd
  · cases hd; cases hx.int; cases hy.int
    exact op_ge pins s σ H _ _ v u Q I rx ry ⟨_, _, rfl, rfl, k _ _ (.refl _) (.bl _)⟩
  · cases hd
omit hK in
theorem isN_rel {T : Tx} {H : Hp} {Z : Zs} {x : V} {d : D} (h : Rv T H Z x d) : decide (x = .non) = d.isN := by
  rcases h with h | ⟨fp, h⟩ <;> cases h <;> rfl
omit hK in
theorem opr_is : OpR X (compareOp .Is) (rD2 T D.isD) := by
  intro pins s σ H x y v u Q I rx ry ⟨Z, dx, dy, d, z, hx, hy, hd, k⟩
  unfold D.isD at hd
  split at hd
  · cases hd; cases hy.non
    exact op_isN pins s σ H _ _ v u Q I rx ry ⟨rfl, by rw [isN_rel hx]; exact k _ _ (.refl _) (.bl _)⟩
  · cases hd; cases hx.bl; cases hy.bl
    exact op_is_bl pins s σ H _ _ v u Q I rx ry ⟨_, _, rfl, rfl, k _ _ (.refl _) (.bl _)⟩
  · cases hd
omit hK in
theorem opr_isn : OpR X (compareOp .IsNot) (rD2 T D.isnD) := by
  intro pins s σ H x y v u Q I rx ry ⟨Z, dx, dy, d, z, hx, hy, hd, k⟩
  unfold D.isnD at hd
  split at hd
  · cases hd; cases hy.non
    exact op_notN pins s σ H _ _ v u Q I rx ry ⟨rfl, by rw [isN_rel hx]; exact k _ _ (.refl _) (.bl _)⟩
  · cases hd; cases hx.bl; cases hy.bl
    exact op_isnot_bl pins s σ H _ _ v u Q I rx ry ⟨_, _, rfl, rfl, k _ _ (.refl _) (.bl _)⟩
  · cases hd
end
/-- what a dict holds at a key -/
theorem dget_rel {T : Tx} {H : Hp} {Z : Zs} {x y : V} {dx dy : D} {o : Option D} (hx : Rv T H Z x dx) (hy : Rv T H Z y dy) (e : dx.dget dy = some o) :
    ∃ a ov, x = .ref a ∧ DGet H a y ov ∧ ((o = none ∧ ov = none) ∨ ∃ d v, o = some d ∧ ov = some v ∧ R T H Z v d) := by
  unfold D.dget at e
  split at e
  · rename_i kvs
    simp only [Option.map_eq_some_iff] at e
    obtain ⟨k, ek, rfl⟩ := e
    obtain ⟨a, ws, rfl, h, ek2, r⟩ := hx.dk
    have := keyOf_rel hy ek
    subst this
    rcases kfind_rel k ek2 r with ⟨e1, e2⟩ | ⟨d, v, e1, e2, r⟩
    · exact ⟨a, _, rfl, .inl ⟨ws, k, h, rfl, rfl⟩, .inl ⟨e1, e2⟩⟩
    · exact ⟨a, _, rfl, .inl ⟨ws, k, h, rfl, rfl⟩, .inr ⟨d, v, e1, e2, r⟩⟩
  · rename_i kvs k0 ks0
    simp only [Option.map_eq_some_iff] at e
    obtain ⟨ks, ek2, rfl⟩ := e
    obtain ⟨a, ws, rfl, h, ek, r⟩ := hx.dt
    obtain ⟨b, xs, rfl, f, hs, r2⟩ := hy.tup
    rcases f with ⟨f, _⟩ | ⟨f, _⟩
    · have e4 := keysOf_rel r2 ek2
      subst e4
      rcases kfind_rel ks ek r with ⟨e1, e5⟩ | ⟨d, v, e1, e5, r⟩
      · exact ⟨a, _, rfl, .inr ⟨ws, ks, b, h, rfl, f, rfl⟩, .inl ⟨e1, e5⟩⟩
      · exact ⟨a, _, rfl, .inr ⟨ws, ks, b, h, rfl, f, rfl⟩, .inr ⟨d, v, e1, e5, r⟩⟩
    · subst f; cases r2
  · cases e
section
variable {T : Tx} {X : Cx} (hK : X.K = T.K)
include hK
theorem inB_dict {x d : D} {b : Bool} {H : Hp} {Z : Zs} {v w : V} (hx : Rv T H Z v x) (hd : Rv T H Z w d) (e : x.inB d = some b) :
    (∃ p ps, x.py = some p ∧ (d.py = some (.tuple ps) ∨ d.py = some (.list ps)) ∧ SeqAt.shaped p = true ∧ PyData.canLayAll0 ps = true ∧ PyData.depthAll ps ≤ 64 ∧ b = ps.any fun z => PyData.eqv z p) ∨
    (∃ (c : Nat) (z : Str), x = .str ⟨#[c]⟩ ∧ d = .str z ∧ b = decide (c ∈ z.cps.toList)) ∨ ∃ o, d.dget x = some o ∧ b = o.isSome := by
  unfold D.inB at e
  split at e
  · left
    split at e
    · split at e
      · rename_i p ps e1 e2 e3
        cases e
        rw [Bool.and_eq_true] at e3
        have q := e3.2
        simp only [SeqAt.shaped, PyData.canLay0, PyData.depth, Bool.and_eq_true, decide_eq_true_eq] at q
        refine ⟨p, ps, e1, .inl (by simp [D.py, e2]), e3.1, q.1, by have := of_decide_eq_true q.2; omega, rfl⟩
      · cases e
    · cases e
  · left
    split at e
    · split at e
      · rename_i p ps e1 e2 e3
        cases e
        rw [Bool.and_eq_true] at e3
        have q := e3.2
        simp only [SeqAt.shaped, PyData.canLay0, PyData.depth, Bool.and_eq_true, decide_eq_true_eq] at q
        refine ⟨p, ps, e1, .inr (by simp [D.py, e2]), e3.1, q.1, by have := of_decide_eq_true q.2; omega, rfl⟩
      · cases e
    · cases e
  · right; left
    rename_i y z
    split at e
    · rename_i c e1
      cases e
      refine ⟨c, z, ?_, rfl, rfl⟩
      obtain ⟨⟨l⟩⟩ := y
      have e2 : l = [c] := e1
      rw [e2]
    · cases e
  · right; right
    simp only [Option.map_eq_some_iff] at e
    obtain ⟨o, e, rfl⟩ := e
    exact ⟨o, e, rfl⟩
theorem opr_in (hu : X.A.units + 130 < cLine) : OpR X (compareOp .In) (rD2 T D.inD) := by
  intro pins s σ H x y v u Q I rx ry ⟨Z, dx, dy, d, z, hx, hy, hd, k⟩
  simp only [D.inD, oB, Option.map_eq_some_iff] at hd
  obtain ⟨b, hd, rfl⟩ := hd
  rcases inB_dict hK hx hy hd with ⟨p, ps, e1, e2, sp, sl, sd, rfl⟩ | ⟨c, z, rfl, rfl, rfl⟩ | ⟨o, e, rfl⟩
  · obtain ⟨as, r1⟩ := Dp.reads I p x v (by rw [hK]; exact hx.dp e1) rx
    rcases e2 with e2 | e2
    · obtain ⟨bs, r2⟩ := Dp.reads I _ y u (by rw [hK]; exact hy.dp e2) ry
      exact SeqAt.in_tuple_reads r2 r1 sl (SeqAt.canLay_of_shaped sp) (by omega) ⟨.bl _, H, I, rfl, k _ _ (.refl _) (.bl _)⟩
    · obtain ⟨bs, r2⟩ := Dp.reads I _ y u (by rw [hK]; exact hy.dp e2) ry
      exact SeqAt.in_list_reads r2 r1 sl (SeqAt.canLay_of_shaped sp) (by omega) ⟨.bl _, H, I, rfl, k _ _ (.refl _) (.bl _)⟩
  · cases hx.str; cases hy.str
    exact op_in_sign pins s σ H _ _ v u Q I rx ry ⟨_, _, rfl, rfl, k _ _ (.refl _) (.bl _)⟩
  · obtain ⟨a, ov, rfl, g, r⟩ := dget_rel hy hx e
    cases ry
    refine d_in (by omega) I g rx fun s' I' => ⟨.bl _, H, I', rfl, ?_⟩
    have : ov.isSome = o.isSome := by
      rcases r with ⟨rfl, rfl⟩ | ⟨d, v, rfl, rfl, _⟩ <;> rfl
    rw [this]
    exact k _ _ (.refl _) (.bl _)
theorem opr_nin (hu : X.A.units + 130 < cLine) : OpR X (compareOp .NotIn) (rD2 T D.ninD) := by
  intro pins s σ H x y v u Q I rx ry ⟨Z, dx, dy, d, z, hx, hy, hd, k⟩
  simp only [D.ninD, oB, Option.map_eq_some_iff] at hd
  obtain ⟨b, ⟨b', hd, rfl⟩, rfl⟩ := hd
  rcases inB_dict hK hx hy hd with ⟨p, ps, e1, e2, sp, sl, sd, rfl⟩ | ⟨c, z, rfl, rfl, rfl⟩ | ⟨o, e, rfl⟩
  · obtain ⟨as, r1⟩ := Dp.reads I p x v (by rw [hK]; exact hx.dp e1) rx
    rcases e2 with e2 | e2
    · obtain ⟨bs, r2⟩ := Dp.reads I _ y u (by rw [hK]; exact hy.dp e2) ry
      exact SeqAt.notIn_tuple_reads r2 r1 sl (SeqAt.canLay_of_shaped sp) (by omega) ⟨.bl _, H, I, rfl, k _ _ (.refl _) (.bl _)⟩
    · obtain ⟨bs, r2⟩ := Dp.reads I _ y u (by rw [hK]; exact hy.dp e2) ry
      exact SeqAt.notIn_list_reads r2 r1 sl (SeqAt.canLay_of_shaped sp) (by omega) ⟨.bl _, H, I, rfl, k _ _ (.refl _) (.bl _)⟩
  · cases hx.str; cases hy.str
    exact op_notIn_sign pins s σ H _ _ v u Q I rx ry ⟨_, _, rfl, rfl, k _ _ (.refl _) (.bl _)⟩
  · obtain ⟨a, ov, rfl, g, r⟩ := dget_rel hy hx e
    cases ry
    refine d_notIn (by omega) I g rx fun s' I' => ⟨.bl _, H, I', rfl, ?_⟩
    have : ov.isSome = o.isSome := by
      rcases r with ⟨rfl, rfl⟩ | ⟨d, v, rfl, rfl, _⟩ <;> rfl
    rw [this]
    exact k _ _ (.refl _) (.bl _)
/-- o[i] of rows and texts -/
theorem ixr : IxR X (rD2 T D.ixD) := by
  intro value slice pins s σ H x y v u Q I rx ry ⟨Z, dx, dy, d, z, hx, hy, hd, k⟩ hs
  unfold D.ixD at hd
  split at hd
  · rename_i xs i
    obtain ⟨a, vs, rfl, f, h, r⟩ := hx.tup
    cases hy.int
    obtain ⟨j, hj, hd⟩ := Option.bind_eq_some_iff.mp hd
    obtain ⟨w, hw, rw1⟩ := r.get hd
    exact ix_tup value slice pins s σ H _ _ v u Q I rx ry ⟨a, vs, i, w, rfl, rfl, by rw [hK]; exact h, by rw [atI, r.len, hj]; exact hw, k _ _ (.refl _) rw1⟩ hs
  · rename_i xs i
    obtain ⟨a, vs, rfl, h, r⟩ := hx.lst
    cases hy.int
    obtain ⟨j, hj, hd⟩ := Option.bind_eq_some_iff.mp hd
    obtain ⟨w, hw, rw1⟩ := r.get hd
    exact ix_list value slice pins s σ H _ _ v u Q I rx ry ⟨a, vs, i, w, rfl, rfl, by rw [hK]; exact .of h, by rw [atI, r.len, hj]; exact hw, k _ _ (.refl _) rw1⟩ hs
  · split at hd
    · rename_i e
      cases hx.str; cases hy.int
      obtain ⟨c, hc, rfl⟩ := Option.map_eq_some_iff.mp hd
      exact ix_str value slice pins s σ H _ _ v u Q I rx ry ⟨_, _, c, rfl, rfl, Nat.le_trans e (by decide), hc, k _ _ (.refl _) (.str _)⟩ hs
    · cases hd
  · cases hd
end
end Lc
namespace Lc
open PySem L2

section
variable {T : Tx} {F : Fm} {g : Gh} {σ : St} {H : Hp} {ρ : List Sl}
theorem getD_some {ρ : List Sl} {i : Nat} {s : Sl} (h : ρ.getD i .no = s) (n : s ≠ .no) : ρ[i]? = some s := by
  rw [List.getD_eq_getElem?_getD] at h
  cases q : ρ[i]? with
  | none => rw [q] at h; exact absurd h.symm n
  | some x => rw [q] at h; cases h; rfl
theorem SR.at (s : SR T F g ρ σ H) {i : Nat} (h : ρ.getD i .no ≠ .no) : ∃ v, σ[i]? = some (some v) := by
  have e := getD_some rfl h
  cases q : ρ.getD i .no with
  | no => exact absurd q h
  | fz d => rw [q] at e; obtain ⟨v, hv, _⟩ := s.fz i d e; exact ⟨v, hv⟩
  | ow d => rw [q] at e; obtain ⟨v, hv, _⟩ := s.ow i d e; exact ⟨v, hv⟩
def D.isOm : D → Bool
  | .om _ => true
  | _ => false
theorem Own.freeze {Z Z' : Zs} {v : V} {d : D} {fp : List Addr} (h : Own T H Z v d fp) (st : Step H Z H Z') (n : d.isOm = false) (k : ∀ a ∈ fp, ¬ Z' a) : R T H Z' v d := by
  cases h with
  | lst h r => exact .lst h (k _ (by simp)) (RA.step st r)
  | dk h e r => exact .dk (.inl h) (k _ (by simp)) e (RA.step st r)
  | dt h e r => exact .dt (.inl h) (k _ (by simp)) e (RA.step st r)
  | ins h h2 e r => exact .ins h (k _ (by simp)) h2 (k _ (by simp)) e (RA.step st r)
  | om => cases n
/-- some of what is owned is given up -/
def Gh.less (g : Gh) (fp : List Addr) : Gh := ⟨fun a => g.Z a ∧ a ∉ fp, g.fp⟩
theorem Stp.less (fp : List Addr) : Stp F g H (g.less fp) H := ⟨⟨fun _ _ h _ _ => h, fun _ h => .inl h.1, fun _ o h => ⟨o, h⟩, fun _ p h => ⟨p, h⟩, fun _ _ _ h => h, fun _ _ _ h _ => h⟩, fun _ _ => rfl⟩
theorem SR.freeze (s : SR T F g ρ σ H) {i : Nat} {d : D} (h : ρ[i]? = some (.ow d)) (n : d.isOm = false) :
    SR T F (g.less (g.fp i)) (ρ.set i (.fz d)) σ H ∧ ∃ v, σ[i]? = some (some v) ∧ R T H (g.less (g.fp i)).Z v d := by
  obtain ⟨v, hv, o, hz⟩ := s.ow i d h
  have st := (Stp.less (F := F) (g := g) (H := H) (g.fp i)).st
  have rv : R T H (g.less (g.fp i)).Z v d := o.freeze st n fun a ha q => q.2 ha
  refine ⟨⟨by rw [List.length_set]; exact s.len, fun j e q => ?_, fun j e q => ?_, fun j k e f hjk q1 q2 => ?_, fun a y => ⟨s.yz a y, fun q => (hz a q).2 y⟩, fun a z => s.zl a z.1, s.pin⟩, v, hv, rv⟩
  · rw [List.getElem?_set] at q
    split at q
    · rename_i e1; subst e1
      split at q
      · cases q; exact ⟨v, hv, rv⟩
      · cases q
    · obtain ⟨w, hw, r⟩ := s.fz j e q
      exact ⟨w, hw, R.step st r⟩
  · rw [List.getElem?_set] at q
    split at q
    · split at q <;> cases q
    · rename_i ne
      obtain ⟨w, hw, r, hz2⟩ := s.ow j e q
      exact ⟨w, hw, r.step st (fun _ _ => rfl), fun a ha => ⟨⟨(hz2 a ha).1, fun q2 => s.dj i j d e ne h q a q2 ha⟩, (hz2 a ha).2⟩⟩
  · rw [List.getElem?_set] at q1 q2
    split at q1
    · split at q1 <;> cases q1
    · split at q2
      · split at q2 <;> cases q2
      · exact s.dj j k e f hjk q1 q2
end

def eVar (i : Nat) : EE := fun ρ => match ρ.getD i .no with
  | .fz d => .ok d ρ
  | .ow d => if d.isOm then .no else .ok d (ρ.set i (.fz d))
  | .no => .no
def eC (d : D) : EE := fun ρ => .ok d ρ
def oVar (i : Nat) : EO := fun ρ => match ρ.getD i .no with
  | .no => .no
  | _ => .ok (.s i) ρ
def oV (t : EE) : EO := fun ρ => (t ρ).bind fun d ρ => .ok (.v d) ρ
def eNo : EE := fun _ => .no
def eAnd (ta tb : EE) : EE := fun ρ => (ta ρ).bind fun x ρ => match x with
  | .bl true => tb ρ
  | .bl false => .ok (.bl false) ρ
  | _ => .no
def eOr (ta tb : EE) : EE := fun ρ => (ta ρ).bind fun x ρ => match x with
  | .bl true => .ok (.bl true) ρ
  | .bl false => tb ρ
  | _ => .no
def eNot (ta : EE) : EE := fun ρ => (ta ρ).bind fun x ρ => match x with
  | .bl b => .ok (.bl (!b)) ρ
  | _ => .no
abbrev EB := List Sl → Res Bool
def bV (t : EE) : EB := fun ρ => (t ρ).bind fun x ρ => match x with
  | .bl b => .ok b ρ
  | _ => .no
def bAnd (ta tb : EB) : EB := fun ρ => (ta ρ).bind fun x ρ => if x then tb ρ else .ok false ρ
def bOr (ta tb : EB) : EB := fun ρ => (ta ρ).bind fun x ρ => if x then .ok true ρ else tb ρ
def bNot (ta : EB) : EB := fun ρ => (ta ρ).bind fun x ρ => .ok (!x) ρ
def eIf (c : EB) (a b : EE) : EE := fun ρ => (c ρ).bind fun x ρ => if x then a ρ else b ρ
def eChn (f f2 : D → D → Option D) (ta tb tc : EO) : EE := fun ρ => (ta ρ).bind fun a ρ => (tb ρ).bind fun b ρ =>
  match (a.get ρ).bind fun x => (b.get ρ).bind fun y => f x y with
  | some (.bl true) => (tc ρ).bind fun c ρ => Res.of ((b.get ρ).bind fun y => (c.get ρ).bind fun z => f2 y z) ρ
  | some (.bl false) => .ok (.bl false) ρ
  | _ => .no
def aNil : EA := fun ρ => .ok [] ρ
def aCons (t : EE) (r : EA) : EA := fun ρ => (t ρ).bind fun x ρ => (r ρ).bind fun xs ρ => .ok (x :: xs) ρ
def aStar (t : EO) (r : EA) : EA := fun ρ => (t ρ).bind fun o ρ => match (o.get ρ).bind D.seq? with
  | some ys => (r ρ).bind fun xs ρ => .ok (ys ++ xs) ρ
  | none => .no
def eTup (t : EA) : EE := fun ρ => (t ρ).bind fun xs ρ => if xs.length ≤ LIM then .ok (.tup xs) ρ else .no
def eLst (t : EA) : EE := fun ρ => (t ρ).bind fun xs ρ => if xs.length ≤ LIM then .ok (.lst xs) ρ else .no
/-- an attribute of a thing of one class -/
def D.fldC (c : Nat) (f : Str) : D → Option D
  | .ins c' fs => if c' = c then fs.lookup f else none
  | _ => none
def eFldC (c : Nat) (f : Str) (t : EO) : EE := eOp1 (D.fldC c f) t
abbrev EL := List Sl → Res (Option Int)
def lNo : EL := fun ρ => .ok none ρ
def lSo (t : EE) : EL := fun ρ => (t ρ).bind fun x ρ => match x with
  | .int i => .ok (some i) ρ
  | _ => .no
def eSl (t : EO) (lo hi : EL) : EE := fun ρ => (t ρ).bind fun o ρ => (lo ρ).bind fun l ρ => (hi ρ).bind fun h ρ => Res.of ((o.get ρ).bind fun d => d.slD l h) ρ

section
variable {T : Tx} {F : Fm} {W : Value → Option Addr → St → Hp → Prop} {X : Cx} {e a b c : Expr} {es rest : List Expr} {pos p : Pos} {i : Nat} {x : Str}
theorem s_no : SE T F W X e eNo := ⟨fun _ _ _ _ _ _ h => by obtain ⟨g, ρ, _, h⟩ := h; exact h.elim⟩
theorem o_no : SO T F W X e (fun _ => .no) := ⟨fun _ _ _ _ _ _ h => by obtain ⟨g, ρ, _, h⟩ := h; exact h.elim⟩
theorem s_var (hN : X.N[i]? = some x) (hv : Vis X.env.scope x) (hd : (x == ("__debug__" : Str)) = false := by decide) (hcd : (x == ("__classdict__" : Str)) = false := by decide) : SE T F W X (.Name x pos) (eVar i) := by
  refine pe_imp (pe_var hN hv hd hcd) fun σ H Q h => ?_
  obtain ⟨g, ρ, s, p⟩ := h
  unfold eVar at p
  split at p
  · rename_i d q
    obtain ⟨v, hv, r⟩ := s.fz i d (getD_some q (by simp))
    exact ⟨v, hv, p v g H .refl s r⟩
  · rename_i d q
    split at p
    · exact p.elim
    · rename_i n
      obtain ⟨s', v, hv, r⟩ := s.freeze (getD_some q (by simp)) (by simpa using n)
      exact ⟨v, hv, p v _ H (.less _) s' r⟩
  · exact p.elim
theorem o_var (hN : X.N[i]? = some x) (hv : Vis X.env.scope x) (hd : (x == ("__debug__" : Str)) = false := by decide) (hcd : (x == ("__classdict__" : Str)) = false := by decide) : SO T F W X (.Name x pos) (oVar i) := by
  refine pe_imp (pe_var hN hv hd hcd) fun σ H Q h => ?_
  obtain ⟨g, ρ, s, p⟩ := h
  unfold oVar at p
  split at p
  · exact p.elim
  · rename_i n
    obtain ⟨v, hv⟩ := s.at (i := i) (fun q => n q)
    exact ⟨v, hv, p v g H .refl s hv⟩
theorem o_val {t : EE} (h : SE T F W X e t) : SO T F W X e (oV t) := pe_imp h fun σ H Q q => den.bind q fun d ρ1 g0 H0 g1 H1 v s1 e1 r1 p1 => p1.ok e1 r1
theorem s_const {d : D} {v : V} (h : PE X e (tC v)) (r : ∀ H Z, R T H Z v d) : SE T F W X e (eC d) := by
  refine pe_imp h fun σ H Q q => ?_
  obtain ⟨g, ρ, s, p⟩ := q
  exact p v g H .refl s (r _ _)
theorem s_int {j : Int} {k : Nat} : SE T F W X (.Constant (.int j) k pos) (eC (.int j)) := s_const pe_int fun _ _ => .int j
theorem s_bl {j : Bool} {k : Nat} : SE T F W X (.Constant (.bool j) k pos) (eC (.bl j)) := s_const pe_bl fun _ _ => .bl j
theorem s_str {j : Str} {k : Nat} : SE T F W X (.Constant (.str j) k pos) (eC (.str j)) := s_const pe_str fun _ _ => .str j
theorem s_non {k : Nat} : SE T F W X (.Constant .none k pos) (eC .non) := s_const pe_non fun _ _ => .non
theorem s_gloI {j : Int} {u : Value} (hg : Gl X x) (hm : X.mg x = some u) (r : RelV (.int j) u) (hd : (x == ("__debug__" : Str)) = false := by decide) : SE T F W X (.Name x pos) (eC (.int j)) := s_const (pe_glob hg hm r hd) fun _ _ => .int j
theorem s_gloS {j : Str} {u : Value} (hg : Gl X x) (hm : X.mg x = some u) (r : RelV (.str j) u) (hd : (x == ("__debug__" : Str)) = false := by decide) : SE T F W X (.Name x pos) (eC (.str j)) := s_const (pe_glob hg hm r hd) fun _ _ => .str j

theorem s_one {op} {t : EE} (h : SE T F W X a t) : SE T F W X (.BoolOp op [a] pos) t := pe_one h
theorem s_and {ta tb : EE} (ha : SE T F W X a ta) (hb : SE T F W X (.BoolOp .And (b :: rest) pos) tb) : SE T F W X (.BoolOp .And (a :: b :: rest) pos) (eAnd ta tb) := by
  refine pe_imp (pe_and ha hb) fun σ H Q q => den.bind q fun d ρ1 g0 H0 g1 H1 v s1 e1 r1 p1 => ?_
  cases d <;> try exact p1.elim
  rename_i k
  cases r1
  refine ⟨k, rfl, ?_⟩
  cases k
  · exact p1.ok e1 (.bl false)
  · exact ⟨g1, ρ1, e1, p1⟩
theorem s_or {ta tb : EE} (ha : SE T F W X a ta) (hb : SE T F W X (.BoolOp .Or (b :: rest) pos) tb) : SE T F W X (.BoolOp .Or (a :: b :: rest) pos) (eOr ta tb) := by
  refine pe_imp (pe_or ha hb) fun σ H Q q => den.bind q fun d ρ1 g0 H0 g1 H1 v s1 e1 r1 p1 => ?_
  cases d <;> try exact p1.elim
  rename_i k
  cases r1
  refine ⟨k, rfl, ?_⟩
  cases k
  · exact ⟨g1, ρ1, e1, p1⟩
  · exact p1.ok e1 (.bl true)
theorem s_not {ta : EE} (ha : SE T F W X a ta) : SE T F W X (.UnaryOp .Not a pos) (eNot ta) := by
  refine pe_imp (pe_not ha) fun σ H Q q => den.bind q fun d ρ1 g0 H0 g1 H1 v s1 e1 r1 p1 => ?_
  cases d <;> try exact p1.elim
  rename_i k
  cases r1
  exact ⟨k, rfl, p1.ok e1 (.bl _)⟩
/-- a condition that is a value -/
theorem b_val {t : EE} (h : SE T F W X e t) (mk : ∀ t, PE X e t → PT X e (fun σ H Q => t σ H fun x H1 => ∃ c, x = .bl c ∧ Q c H1)) : ST T F W X e (bV t) := by
  refine pt_imp (mk _ h) fun σ H Q q => den.bind q fun d ρ1 g0 H0 g1 H1 v s1 e1 r1 p1 => ?_
  cases d <;> try exact p1.elim
  rename_i k
  cases r1
  exact ⟨k, rfl, p1.ok e1 rfl⟩
theorem b_not {t : EB} (h : ST T F W X e t) : ST T F W X (.UnaryOp .Not e pos) (bNot t) :=
  pt_imp (pt_not h) fun σ H Q q => den.bind q fun d ρ1 g0 H0 g1 H1 v s1 e1 r1 p1 => by cases r1; exact p1.ok e1 rfl
def SW (T : Tx) (F : Fm) (W : Value → Option Addr → St → Hp → Prop) (X : Cx) (e : Expr) (t : EB) : Prop := PW X e (den T F W rB t)
theorem pw_imp {X : Cx} {e : Expr} {t t' : TT} (h : PW X e t) (k : ∀ σ H Q, t' σ H Q → t σ H Q) : PW X e t' := ⟨fun wh pins s σ H Q I q => h.run wh pins s σ H Q I (k _ _ _ q)⟩
theorem w_and1 {t : EB} (h : ST T F W X a t) : SW T F W X (.BoolOp .And [a] pos) t := pw_and1 h
theorem w_or1 {t : EB} (h : ST T F W X a t) : SW T F W X (.BoolOp .Or [a] pos) t := pw_or1 h
theorem w_and {ta tb : EB} (ha : ST T F W X a ta) (hb : SW T F W X (.BoolOp .And (b :: rest) pos) tb) : SW T F W X (.BoolOp .And (a :: b :: rest) pos) (bAnd ta tb) := by
  refine pw_imp (pw_and ha hb) fun σ H Q q => den.bind q fun d ρ1 g0 H0 g1 H1 v s1 e1 r1 p1 => ?_
  cases r1
  cases d
  · exact p1.ok e1 rfl
  · exact ⟨g1, ρ1, e1, p1⟩
theorem w_or {ta tb : EB} (ha : ST T F W X a ta) (hb : SW T F W X (.BoolOp .Or (b :: rest) pos) tb) : SW T F W X (.BoolOp .Or (a :: b :: rest) pos) (bOr ta tb) := by
  refine pw_imp (pw_or ha hb) fun σ H Q q => den.bind q fun d ρ1 g0 H0 g1 H1 v s1 e1 r1 p1 => ?_
  cases r1
  cases d
  · exact ⟨g1, ρ1, e1, p1⟩
  · exact p1.ok e1 rfl
theorem b_w {t : EB} (h : SW T F W X e t) : ST T F W X e t := PW.pt h
theorem s_ite {tc : EB} {ta tb : EE} (hc : ST T F W X c tc) (ha : SE T F W X a ta) (hb : SE T F W X b tb) : SE T F W X (.IfExp c a b pos) (eIf tc ta tb) := by
  refine pe_imp (pe_ifExp hc ha hb) fun σ H Q q => den.bind q fun d ρ1 g0 H0 g1 H1 v s1 e1 r1 p1 => ?_
  cases r1
  cases d
  · exact ⟨g1, ρ1, e1, p1⟩
  · exact ⟨g1, ρ1, e1, p1⟩
theorem s_chn {op op' : CmpOp} {f f2 : D → D → Option D} {ta tb tc : EO} (ho : OpR X (compareOp op) (rD2 T f)) (ho' : OpR X (compareOp op') (rD2 T f2)) (ha : SO T F W X a ta) (hb : SO T F W X b tb) (hc : SO T F W X c tc)
    (hm : lastMarks [op, op'] [b, c] = false := by with_unfolding_all rfl) : SE T F W X (.Compare a [op, op'] [b, c] pos) (eChn f f2 ta tb tc) := by
  refine pe_imp (pe_chain ho ho' ha hb hc hm) fun σ H Q q => den.bind q fun oa ρ1 g0 H0 g1 H1 v s1 e1 r1 p1 => ?_
  refine ⟨g1, ρ1, e1, Po.bind p1 fun ob ρ2 g2 H2 y s2 e2 r2 p2 => ?_⟩
  have key : ∀ {d : D} {k : Bool}, ((oa.get ρ2).bind fun x => (ob.get ρ2).bind fun y => f x y) = some d → ∀ {Q' : VK}, (∀ v H', Gr H2 H' → R T H' g2.Z v d → Q' v H') → rD2 T f v y H2 Q' := by
    intro d _ hd Q' hk
    cases q1 : oa.get ρ2 with
    | none => rw [q1] at hd; cases hd
    | some dx =>
      rw [q1] at hd
      cases q2 : ob.get ρ2 with
      | none => rw [q2] at hd; cases hd
      | some dy =>
        rw [q2] at hd
        exact ⟨g2.Z, dx, dy, d, e2.zl, (rO.step (ρ' := ρ2) r1 s2).rv e2 q1, r2.rv e2 q2, hd, hk⟩
  split at p2
  · rename_i hd
    refine key (k := true) hd fun w H3 gr r => ?_
    cases r
    refine ⟨true, rfl, ?_⟩
    have p3 := Po.step p2 (.gr gr e2)
    have e3 := e2.gr gr
    refine ⟨g2, ρ2, e3, Po.bind p3 fun oc ρ3 g4 H4 z s4 e4 r4 p4 => ?_⟩
    obtain ⟨d, hd, p5⟩ := Po.of p4
    cases q1 : ob.get ρ3 with
    | none => rw [q1] at hd; cases hd
    | some dx =>
      rw [q1] at hd
      cases q2 : oc.get ρ3 with
      | none => rw [q2] at hd; cases hd
      | some dy =>
        rw [q2] at hd
        exact ⟨g4.Z, dx, dy, d, e4.zl, (rO.step (ρ' := ρ3) (rO.step (ρ' := ρ2) r2 (.gr gr e2)) s4).rv e4 q1, r4.rv e4 q2, hd, fun v H' gr r => p5 v g4 H' (.gr gr e4) (e4.gr gr) r⟩
  · rename_i hd
    refine key (k := true) hd fun w H3 gr r => ?_
    cases r
    exact ⟨false, rfl, p2 _ g2 H3 (.gr gr e2) (e2.gr gr) (.bl false)⟩
  · exact p2.elim
theorem a_nil : SA T F W X [] aNil := pa_imp pa_nil fun σ H Q q => by
  obtain ⟨g, ρ, s, p⟩ := q
  exact p [] g H .refl s .nil
theorem a_cons {t : EE} {r : EA} (h : SE T F W X e t) (hr : SA T F W X es r) (hs : starEach (e :: es) X.env = (false, eval e X.env) :: starEach es X.env := by rfl) : SA T F W X (e :: es) (aCons t r) := by
  refine pa_imp (pa_cons h hr hs) fun σ H Q q => den.bind q fun d ρ1 g0 H0 g1 H1 v s1 e1 r1 p1 => ?_
  refine ⟨g1, ρ1, e1, Po.bind p1 fun ds ρ2 g2 H2 vs s2 e2 r2 p2 => ?_⟩
  exact p2.ok e2 (.cons (R.step s2.st r1) r2)
theorem a_star {t : EO} {r : EA} (hK : X.K = T.K) (h : SO T F W X e t) (hr : SA T F W X es r) (hs : starEach (.Starred e p :: es) X.env = (true, eval e X.env) :: starEach es X.env := by rfl) : SA T F W X (.Starred e p :: es) (aStar t r) := by
  refine pa_imp (StX.pa_star h hr hs) fun σ H Q q => den.bind q fun o ρ1 g0 H0 g1 H1 v s1 e1 r1 p1 => ?_
  split at p1
  · rename_i ys hy
    obtain ⟨d, hd, hy⟩ := Option.bind_eq_some_iff.mp hy
    have rv := r1.rv e1 hd
    obtain ⟨a, xs, rfl, hsq, ra⟩ := rv.seq hy
    refine ⟨a, xs, rfl, by rw [hK]; exact hsq.symm, ?_⟩
    refine ⟨g1, ρ1, e1, Po.bind p1 fun ds ρ2 g2 H2 vs s2 e2 r2 p2 => ?_⟩
    exact p2.ok e2 ((RA.step s2.st ra).app r2)
  · exact p1.elim
theorem s_tup {t : EA} {x1} (h : SA T F W X es t) : SE T F W X (.Tuple es x1 pos) (eTup t) := by
  refine pe_imp (pe_tup h) fun σ H Q q => den.bind q fun ds ρ1 g0 H0 g1 H1 vs s1 e1 r1 p1 => ?_
  split at p1
  · rename_i hl
    refine ⟨by rw [RA.len r1]; exact Nat.le_trans hl (by decide), fun q hq => ?_⟩
    exact p1 _ g1 _ (.gr (.alloc hq) e1) (e1.gr (.alloc hq)) (R.newT hq e1.zl r1)
  · exact p1.elim
/-- one more that is owned -/
def Gh.more (g : Gh) (fp : List Addr) : Gh := ⟨fun a => g.Z a ∨ a ∈ fp, g.fp⟩
theorem SR.more {g : Gh} {σ : St} {H H' : Hp} {ρ : List Sl} {fp : List Addr} (s : SR T F g ρ σ H) (gr : Gr H H') (hn : ∀ a ∈ fp, H a = none ∧ ∃ o, H' a = some o) : Stp F g H (g.more fp) H' ∧ SR T F (g.more fp) ρ σ H' ∧
    (∀ a ∈ fp, (g.more fp).Z a ∧ ¬ F.Y a) ∧ ∀ (i : Nat) (e : D), ρ[i]? = some (Sl.ow e) → ∀ a ∈ g.fp i, a ∉ fp := by
  have st : Step H g.Z H' (g.more fp).Z := ⟨fun b o e _ _ => gr b o e, fun b h => h.imp id fun q => (hn b q).1, fun b u e => ⟨u, gr b u e⟩, fun b u e => ⟨u, gr b _ e⟩, fun b o xs e => gr b _ e, fun b u _ e _ => (gr.step (Z := g.Z)).kd b u ‹_› e ‹_›⟩
  have off : ∀ (i : Nat) (e : D), ρ[i]? = some (Sl.ow e) → ∀ a ∈ g.fp i, a ∉ fp := fun i e q a ha hf => by
    obtain ⟨v, _, o, _⟩ := s.ow i e q
    obtain ⟨ob, ho⟩ := o.some a ha
    rw [(hn a hf).1] at ho; cases ho
  refine ⟨⟨st, (Stp.gr gr s).pr⟩, ⟨s.len, fun i d q => ?_, fun i d q => ?_, s.dj, fun a y => .inl (s.yz a y), fun a z => ?_, s.pin⟩, fun a ha => ⟨.inr ha, fun y => s.zl a (s.yz a y) (hn a ha).1⟩, off⟩
  · obtain ⟨v, hv, r⟩ := s.fz i d q
    exact ⟨v, hv, R.step st r⟩
  · obtain ⟨v, hv, r, hz⟩ := s.ow i d q
    refine ⟨v, hv, r.step st (fun a ha => ?_), fun a ha => ⟨.inl (hz a ha).1, (hz a ha).2⟩⟩
    obtain ⟨o, ho⟩ := r.some a ha
    rw [ho, gr a o ho]
  · rcases z with z | z
    · exact (s.gr gr).zl a z
    · obtain ⟨o, ho⟩ := (hn a z).2
      rw [ho]; simp
theorem n_lst {t : EA} (h : SA T F W X es t) : SN T F W X (.List es pos) (eLst t) := by
  refine pe_imp (pe_lst h) fun σ H Q q => den.bind q fun ds ρ1 g0 H0 g1 H1 vs s1 e1 r1 p1 => ?_
  split at p1
  · rename_i hl
    refine ⟨by rw [RA.len r1]; exact Nat.le_trans hl (by decide), fun q hq => ?_⟩
    obtain ⟨a1, a2, a3, a4⟩ := e1.more (fp := [q]) (.alloc (o := .lst vs) hq) (fun a ha => by cases List.mem_singleton.mp ha; exact ⟨hq, _, upd_same⟩)
    exact p1 _ (g1.more [q]) _ a1 a2 ⟨[q], .lst upd_same (RA.step a1.st r1), a3, a4⟩
  · exact p1.elim
/-- a new thing may be let go -/
def D.noOm (t : EE) : EE := fun ρ => (t ρ).bind fun d ρ => if d.isOm then .no else .ok d ρ
theorem s_new {t : EE} (h : SN T F W X e t) : SE T F W X e (D.noOm t) := by
  refine pe_imp h fun σ H Q q => den.bind q fun d ρ1 g0 H0 g1 H1 v s1 e1 r1 p1 => ?_
  split at p1
  · exact p1.elim
  · rename_i n
    obtain ⟨fp, o, hz, hd⟩ := r1
    have st := (Stp.less (F := F) (g := g1) (H := H1) fp)
    refine p1 v (g1.less fp) H1 st ⟨e1.len, fun i d q => ?_, fun i d q => ?_, e1.dj, fun a y => ⟨e1.yz a y, fun q => (hz a q).2 y⟩, fun a z => e1.zl a z.1, e1.pin⟩ (o.freeze st.st (by simpa using n) fun a ha q => q.2 ha)
    · obtain ⟨v, hv, r⟩ := e1.fz i d q
      exact ⟨v, hv, R.step st.st r⟩
    · obtain ⟨v, hv, r, hz2⟩ := e1.ow i d q
      exact ⟨v, hv, r.step st.st (fun _ _ => rfl), fun a ha => ⟨⟨(hz2 a ha).1, hd i d q a ha⟩, (hz2 a ha).2⟩⟩
theorem s_lst {t : EA} (h : SA T F W X es t) : SE T F W X (.List es pos) (D.noOm (eLst t)) := s_new (n_lst h)
end
end Lc
namespace Lc
open PySem L2

section
variable {T : Tx} {F : Fm} {W : Value → Option Addr → St → Hp → Prop} {X : Cx} {e a b c o i : Expr} {es rest : List Expr} {pos p p2 : Pos} {x f : Str}
theorem s_ix {ta tb : EO} (hK : X.K = T.K) (ha : SO T F W X a ta) (hb : SO T F W X b tb) (hs : PlainIx b := by intro _ _; rfl) : SE T F W X (.Subscript a b pos) (eOp2 D.ixD ta tb) :=
  s_op2 ha hb fun ta tb h1 h2 => pe_ix (ixr hK) h1 h2 hs
theorem s_dget {ta tb : EO} (hu : X.A.units + 1 < cLine) (ha : SO T F W X o ta) (hb : SO T F W X i tb) (hs : NoSl i := by intro _ _; rfl) : SE T F W X (.Subscript o i pos) (eOp2 D.dgetD ta tb) := by
  refine pe_imp (pe_dget hu ha hb hs) fun σ H Q h => ?_
  refine den.bind h fun oa ρ1 g0 H0 g1 H1 x s1 e1 r1 p1 => ?_
  refine ⟨g1, ρ1, e1, Po.bind p1 fun ob ρ2 g2 H2 y s2 e2 r2 p2 => ?_⟩
  obtain ⟨d, hd, p3⟩ := Po.of p2
  obtain ⟨dx, q1, hd⟩ := Option.bind_eq_some_iff.mp hd
  obtain ⟨dy, q2, hd⟩ := Option.bind_eq_some_iff.mp hd
  obtain ⟨o', q3, q4⟩ := Option.bind_eq_some_iff.mp hd
  cases q4
  obtain ⟨a, ov, rfl, g, r⟩ := dget_rel ((rO.step (ρ' := ρ2) r1 s2).rv e2 q1) (r2.rv e2 q2) q3
  rcases r with ⟨e, _⟩ | ⟨d', v, e, rfl, r⟩
  · cases e
  · cases e
    exact ⟨a, v, rfl, g, p3 v g2 H2 .refl e2 r⟩
def rL (o : Option Int) (_ : List Sl) (_ : Gh) (_ : St) (_ : Hp) (v : Option Int) : Prop := v = o
def SL (T : Tx) (F : Fm) (W : Value → Option Addr → St → Hp → Prop) (X : Cx) (e : Option Expr) (t : EL) : Prop := PO X e (den T F W rL t)
theorem po_imp {X : Cx} {e : Option Expr} {t t' : TO} (h : PO X e t) (k : ∀ σ H Q, t' σ H Q → t σ H Q) : PO X e t' := ⟨fun pins s σ H Q I q => h.run pins s σ H Q I (k _ _ _ q)⟩
theorem l_no : SL T F W X none lNo := po_imp po_none fun σ H Q q => by
  obtain ⟨g, ρ, s, p⟩ := q
  exact p none g H .refl s rfl
theorem l_so {t : EE} (h : SE T F W X e t) : SL T F W X (some e) (lSo t) := po_imp (po_some h) fun σ H Q q => den.bind q fun d ρ1 g0 H0 g1 H1 v s1 e1 r1 p1 => by
  cases d <;> try exact p1.elim
  cases r1
  exact ⟨_, rfl, p1.ok e1 rfl⟩
def rSD (T : Tx) : V → Option Int → Option Int → Hp → VK → Prop := fun x lo hi H Q => ∃ (Z : Zs) (dx d : D), (∀ a, Z a → H a ≠ none) ∧ Rv T H Z x dx ∧ dx.slD lo hi = some d ∧ ∀ v H', Gr H H' → R T H' Z v d → Q v H'
theorem cut_all {α : Type} {xs : List α} {lo hi : Option Int} (h : HT.sIx xs.length 0 lo = 0 ∧ HT.sIx xs.length xs.length hi = xs.length) : cutL xs lo hi = xs := by
  unfold cutL; rw [h.1, h.2]; simp
theorem RA.cut {H : Hp} {Z : Zs} {vs : List V} {ds : List D} (lo hi : Option Int) (h : RA T H Z vs ds) : RA T H Z (cutV vs lo hi) (cutL ds lo hi) := by
  unfold cutV cutL; rw [h.len]; exact RA.take _ (RA.drop _ h)
theorem slr (hK : X.K = T.K) : SlR X (rSD T) := by
  intro pins s σ H x v vl vu lo hi sl Q I rx hs pl pu ⟨Z, dx, d, z, hx, hd, k⟩
  unfold D.slD at hd
  split at hd
  · cases hd
    obtain ⟨a, xs, rfl, f, h, r⟩ := hx.tup
    refine sl_tupA pins s σ H _ v vl vu _ _ sl Q I rx hs pl pu ⟨a, xs, rfl, by rw [hK]; exact h, fun e => ?_, fun e p hp => ?_⟩
    · rw [r.len] at e
      rw [cut_all e] at k
      exact k _ _ (.refl _) (.tup f r)
    · exact k _ _ (.alloc hp) (R.newT hp z (r.cut _ _))
  · cases hd
    obtain ⟨a, xs, rfl, h, r⟩ := hx.lst
    exact sl_list pins s σ H _ v vl vu _ _ sl Q I rx hs pl pu ⟨a, xs, rfl, by rw [hK]; exact .of h, fun p hp => k _ _ (.alloc hp) (R.newL hp z (r.cut _ _))⟩
  · split at hd
    · cases hd; cases hx.str
      rename_i e
      exact sl_str pins s σ H _ v vl vu _ _ sl Q I rx hs pl pu ⟨_, rfl, Nat.le_trans e (by decide), k _ _ (.refl _) (.str _)⟩
    · cases hd
  · cases hd
theorem s_sl {ta : EO} {lo hi : Option Expr} {tl th : EL} (hK : X.K = T.K) (ha : SO T F W X e ta) (hl : SL T F W X lo tl) (hh : SL T F W X hi th) : SE T F W X (.Subscript e (.Slice lo hi none p2) pos) (eSl ta tl th) := by
  refine pe_imp (pe_slice (slr hK) ha hl hh) fun σ H Q h => ?_
  refine den.bind h fun oa ρ1 g0 H0 g1 H1 x s1 e1 r1 p1 => ?_
  refine ⟨g1, ρ1, e1, Po.bind p1 fun l ρ2 g2 H2 y s2 e2 r2 p2 => ?_⟩
  cases r2
  refine ⟨g2, ρ2, e2, Po.bind p2 fun u ρ3 g3 H3 y s3 e3 r3 p3 => ?_⟩
  cases r3
  obtain ⟨d, hd, p4⟩ := Po.of p3
  obtain ⟨dx, q1, hd⟩ := Option.bind_eq_some_iff.mp hd
  exact ⟨g3.Z, dx, d, e3.zl, (rO.step (ρ' := ρ3) (rO.step (ρ' := ρ2) r1 s2) s3).rv e3 q1, hd, fun v H' gr r => p4 v g3 H' (.gr gr e3) (e3.gr gr) r⟩
theorem lookup_rel {κ : Type} [BEq κ] [LawfulBEq κ] {H : Hp} {Z : Zs} : ∀ {ws : List (κ × V)} {kvs : List (κ × D)} (k : κ), ws.map (·.1) = kvs.map (·.1) → RA T H Z (ws.map (·.2)) (kvs.map (·.2)) →
    (kvs.lookup k = none ∧ ws.lookup k = none) ∨ ∃ d v, kvs.lookup k = some d ∧ ws.lookup k = some v ∧ R T H Z v d
  | [], [], k, _, _ => .inl ⟨rfl, rfl⟩
  | [], _ :: _, _, e, _ => by cases e
  | _ :: _, [], _, e, _ => by cases e
  | (k1, v) :: ws, (k2, d) :: kvs, k, e, .cons r t => by
    simp only [List.map_cons, List.cons.injEq] at e
    obtain ⟨rfl, e⟩ := e
    by_cases q : k == k1
    · exact .inr ⟨d, v, by simp [List.lookup_cons, q], by simp [List.lookup_cons, q], r⟩
    · rcases lookup_rel k e t with ⟨a, b⟩ | ⟨d', v', a, b, c⟩
      · exact .inl ⟨by simpa [List.lookup_cons, q] using a, by simpa [List.lookup_cons, q] using b⟩
      · exact .inr ⟨d', v', by simpa [List.lookup_cons, q] using a, by simpa [List.lookup_cons, q] using b, c⟩
/-- what is known of a class: its number, its attributes -/
theorem s_fld {c : Nat} {ta : EO} (hK : X.K = T.K) (hc : Cls T.K (T.cl c)) (hn : NoAttr T.K (T.cl c) f) (ha : SO T F W X e ta) (hb : attributeBase e f X.env (eval e X.env) = eval e X.env := by rfl) : SE T F W X (.Attribute e f pos) (eFldC c f ta) := by
  refine pe_imp (pe_fld ha hb) fun σ H Q h => ?_
  refine den.bind h fun oa ρ1 g0 H0 g1 H1 x s1 e1 r1 p1 => ?_
  obtain ⟨d, hd, p3⟩ := Po.of p1
  obtain ⟨dx, q1, hd2⟩ := Option.bind_eq_some_iff.mp hd
  have rv := r1.rv e1 q1
  cases dx <;> simp only [D.fldC, reduceCtorEq] at hd2
  rename_i c' fs
  by_cases ec : c' = c
  · rw [if_pos ec] at hd2
    subst ec
    obtain ⟨a, dx, ws, rfl, h, _, ek, r⟩ := rv.ins
    rcases lookup_rel f ek r with ⟨q, _⟩ | ⟨d', v, q, q2, r⟩
    · rw [hd2] at q; cases q
    · rw [hd2] at q; cases q
      exact ⟨a, _, dx, ws, v, rfl, h, by rw [hK]; exact hc, by rw [hK]; exact hn, q2, p3 v g1 H1 .refl e1 r⟩
  · rw [if_neg ec] at hd2; cases hd2
def rC1 (T : Tx) (f : D → Option D) : List V → Hp → VK → Prop := fun xs H Q => ∃ x, xs = [x] ∧ rD1 T f x H Q
theorem s_b1 {f : D → Option D} {ta : EO} {id : String} (hc : CallR X (.builtin id) (rC1 T f)) (hg : Gl X x) (hm : X.mg x = none) (hv : bootBuiltins x = some (.builtin id)) (ha : SO T F W X e ta) (hn : x ≠ "__name__" := by decide) (hdb : (x == ("__debug__" : Str)) = false := by decide)
    (he : starEach [e] X.env = (false, eval e X.env) :: starEach [] X.env := by rfl) (hpl : (backTo pos (starEach [] X.env)).any (·.1) = false := by rfl) : SE T F W X (.Call (.Name x p) [e] [] pos) (eOp1 f ta) := by
  refine pe_imp (pe_callB hc hg hm hv (pa_cons ha pa_nil he) hn hdb he hpl) fun σ H Q h => ?_
  refine den.bind h fun oa ρ1 g0 H0 g1 H1 x s1 e1 r1 p1 => ?_
  obtain ⟨d, hd, p3⟩ := Po.of p1
  obtain ⟨dx, q1, hd⟩ := Option.bind_eq_some_iff.mp hd
  exact ⟨x, rfl, g1.Z, dx, d, e1.zl, r1.rv e1 q1, hd, fun v H' gr r => p3 v g1 H' (.gr gr e1) (e1.gr gr) r⟩
theorem s_t1 {f : D → Option D} {ta : EO} {id : String} (hc : CallR X (.type id) (rC1 T f)) (hg : Gl X x) (hm : X.mg x = none) (hv : bootBuiltins x = some (.type id)) (ha : SO T F W X e ta) (hn : x ≠ "__name__" := by decide) (hdb : (x == ("__debug__" : Str)) = false := by decide)
    (he : starEach [e] X.env = (false, eval e X.env) :: starEach [] X.env := by rfl) (hpl : (backTo pos (starEach [] X.env)).any (·.1) = false := by rfl) : SE T F W X (.Call (.Name x p) [e] [] pos) (eOp1 f ta) := by
  refine pe_imp (pe_callTy hc hg hm hv (pa_cons ha pa_nil he) hn hdb he hpl) fun σ H Q h => ?_
  refine den.bind h fun oa ρ1 g0 H0 g1 H1 x s1 e1 r1 p1 => ?_
  obtain ⟨d, hd, p3⟩ := Po.of p1
  obtain ⟨dx, q1, hd⟩ := Option.bind_eq_some_iff.mp hd
  exact ⟨x, rfl, g1.Z, dx, d, e1.zl, r1.rv e1 q1, hd, fun v H' gr r => p3 v g1 H' (.gr gr e1) (e1.gr gr) r⟩
/-- two arguments, values -/
def eB2 (f : D → D → Option D) (ta tb : EO) : EE := eOp2 f ta tb
def rC2 (T : Tx) (f : D → D → Option D) : List V → Hp → VK → Prop := fun xs H Q => ∃ x y, xs = [x, y] ∧ rD2 T f x y H Q
theorem s_b2 {f : D → D → Option D} {ta tb : EO} {id : String} (hc : CallR X (.builtin id) (rC2 T f)) (hg : Gl X x) (hm : X.mg x = none) (hv : bootBuiltins x = some (.builtin id)) (ha : SO T F W X a ta) (hb : SO T F W X b tb) (hn : x ≠ "__name__" := by decide) (hdb : (x == ("__debug__" : Str)) = false := by decide)
    (he : starEach [a, b] X.env = (false, eval a X.env) :: starEach [b] X.env := by rfl) (he2 : starEach [b] X.env = (false, eval b X.env) :: starEach [] X.env := by rfl) (hpl : (backTo pos (starEach [b] X.env)).any (·.1) = false := by rfl) : SE T F W X (.Call (.Name x p) [a, b] [] pos) (eB2 f ta tb) := by
  refine pe_imp (pe_callB hc hg hm hv (pa_cons ha (pa_cons hb pa_nil he2) he) hn hdb he hpl) fun σ H Q h => ?_
  refine den.bind h fun oa ρ1 g0 H0 g1 H1 x s1 e1 r1 p1 => ?_
  refine ⟨g1, ρ1, e1, Po.bind p1 fun ob ρ2 g2 H2 y s2 e2 r2 p2 => ?_⟩
  obtain ⟨d, hd, p3⟩ := Po.of p2
  obtain ⟨dx, q1, hd⟩ := Option.bind_eq_some_iff.mp hd
  obtain ⟨dy, q2, hd⟩ := Option.bind_eq_some_iff.mp hd
  exact ⟨x, y, rfl, g2.Z, dx, dy, d, e2.zl, (rO.step (ρ' := ρ2) r1 s2).rv e2 q1, r2.rv e2 q2, hd, fun v H' gr r => p3 v g2 H' (.gr gr e2) (e2.gr gr) r⟩
end
section
variable {T : Tx} {X : Cx} (hK : X.K = T.K)
include hK
omit hK in
theorem call_lenR : CallR X (.builtin "len") (fun xs H Q => ∃ (a : Addr) (kvs : List (Key × V)), xs = [V.ref a] ∧ Rd H a (.dK kvs) ∧ Q (.int kvs.length) H) := by
  intro pins s σ H xs us Q I r ⟨a, kvs, e, h, q⟩
  subst e
  obtain rfl := Vals.ref1 r
  exact d_len I h fun t s' I' => ⟨.int kvs.length, H, I', ⟨t, rfl⟩, q⟩
theorem cr1_len : CallR X (.builtin "len") (rC1 T D.lenD) := by
  intro pins s σ H xs us Q I r ⟨x, e, Z, dx, d, z, hx, hd, k⟩
  subst e
  unfold D.lenD at hd
  split at hd
  · cases hd
    obtain ⟨a, vs, rfl, f, h, r1⟩ := hx.tup
    exact call_len_seq pins s σ H _ us Q I r ⟨a, vs, rfl, .inr (by rw [hK]; exact h), by rw [r1.len]; exact k _ _ (.refl _) (.int _)⟩
  · cases hd
    obtain ⟨a, vs, rfl, h, r1⟩ := hx.lst
    exact call_len_seq pins s σ H _ us Q I r ⟨a, vs, rfl, .inl (by rw [hK]; exact .of h), by rw [r1.len]; exact k _ _ (.refl _) (.int _)⟩
  · cases hd
    obtain ⟨a, rfl, h⟩ := hx.scr
    refine call_len_seq pins s σ H _ us Q I r ⟨a, _, rfl, .inl (by rw [hK]; exact h), ?_⟩
    rw [List.length_map]; exact k _ _ (.refl _) (.int _)
  · split at hd
    · cases hd; cases hx.str
      rename_i e
      exact call_len_str pins s σ H _ us Q I r ⟨_, rfl, Nat.le_trans e (by decide), k _ _ (.refl _) (.int _)⟩
    · cases hd
  · cases hd
    obtain ⟨a, ws, rfl, h, ek, r1⟩ := hx.dk
    refine call_lenR pins s σ H _ us Q I r ⟨a, ws, rfl, h, ?_⟩
    have e := congrArg List.length ek
    rw [List.length_map, List.length_map] at e
    rw [e]; exact k _ _ (.refl _) (.int _)
  · cases hd
theorem cr1_all (hc : X.calm = true) : CallR X (.builtin "all") (rC1 T D.allD) := by
  intro pins s σ H xs us Q I r ⟨x, e, Z, dx, d, z, hx, hd, k⟩
  subst e
  unfold D.allD at hd
  split at hd
  · obtain ⟨bs, hb, rfl⟩ := Option.map_eq_some_iff.mp hd
    obtain ⟨a, vs, rfl, h, r1⟩ := hx.lst
    have := r1.bls hb
    subst this
    exact cr_all hc pins s σ H _ us Q I r ⟨a, bs, rfl, by rw [hK]; exact .of h, k _ _ (.refl _) (.bl _)⟩
  · cases hd
theorem cr1_any (hc : X.calm = true) : CallR X (.builtin "any") (rC1 T D.anyD) := by
  intro pins s σ H xs us Q I r ⟨x, e, Z, dx, d, z, hx, hd, k⟩
  subst e
  unfold D.anyD at hd
  split at hd
  · obtain ⟨bs, hb, rfl⟩ := Option.map_eq_some_iff.mp hd
    obtain ⟨a, vs, rfl, h, r1⟩ := hx.lst
    have := r1.bls hb
    subst this
    exact cr_any hc pins s σ H _ us Q I r ⟨a, bs, rfl, by rw [hK]; exact .of h, k _ _ (.refl _) (.bl _)⟩
  · cases hd
theorem cr1_sum (hc : X.calm = true) : CallR X (.builtin "sum") (rC1 T D.sumD) := by
  intro pins s σ H xs us Q I r ⟨x, e, Z, dx, d, z, hx, hd, k⟩
  subst e
  unfold D.sumD at hd
  split at hd
  · obtain ⟨bs, hb, rfl⟩ := Option.map_eq_some_iff.mp hd
    obtain ⟨a, vs, rfl, h, r1⟩ := hx.lst
    have := r1.ints hb
    subst this
    exact cr_sum hc pins s σ H _ us Q I r ⟨a, bs, rfl, by rw [hK]; exact .of h, k _ _ (.refl _) (.int _)⟩
  · cases hd
omit hK in
theorem minL_is : ∀ {ns : List Int} {m n : Int}, minL ns = some n → m ∈ ns → (∀ y, y ∈ ns → m ≤ y) → m = n := by
  have low : ∀ {ns : List Int} {n : Int}, minL ns = some n → n ∈ ns ∧ ∀ y, y ∈ ns → n ≤ y := by
    intro ns
    induction ns with
    | nil => intro n h; cases h
    | cons x r ih =>
      intro n h
      simp only [minL] at h
      split at h
      · rename_i e
        cases h
        have : r = [] := by
          cases r with
          | nil => rfl
          | cons y r => simp only [minL] at e; split at e <;> cases e
        subst this
        simp
      · rename_i y e
        cases h
        obtain ⟨h1, h2⟩ := ih e
        split
        · refine ⟨List.mem_cons_of_mem _ h1, fun z hz => ?_⟩
          rcases List.mem_cons.mp hz with rfl | hz
          · omega
          · exact h2 z hz
        · refine ⟨List.mem_cons_self, fun z hz => ?_⟩
          rcases List.mem_cons.mp hz with rfl | hz
          · omega
          · have := h2 z hz; omega
  intro ns m n h hm hl
  obtain ⟨h1, h2⟩ := low h
  have := hl n h1
  have := h2 m hm
  omega
omit hK in
theorem minL_ne : ∀ {ns : List Int} {n : Int}, minL ns = some n → 0 < ns.length
  | _ :: _, _, _ => by simp
omit hK in
theorem maxL_is : ∀ {ns : List Int} {m n : Int}, maxL ns = some n → m ∈ ns → (∀ y, y ∈ ns → y ≤ m) → m = n := by
  have low : ∀ {ns : List Int} {n : Int}, maxL ns = some n → n ∈ ns ∧ ∀ y, y ∈ ns → y ≤ n := by
    intro ns
    induction ns with
    | nil => intro n h; cases h
    | cons x r ih =>
      intro n h
      simp only [maxL] at h
      split at h
      · rename_i e
        cases h
        have : r = [] := by
          cases r with
          | nil => rfl
          | cons y r => simp only [maxL] at e; split at e <;> cases e
        subst this
        simp
      · rename_i y e
        cases h
        obtain ⟨h1, h2⟩ := ih e
        split
        · refine ⟨List.mem_cons_of_mem _ h1, fun z hz => ?_⟩
          rcases List.mem_cons.mp hz with rfl | hz
          · omega
          · exact h2 z hz
        · refine ⟨List.mem_cons_self, fun z hz => ?_⟩
          rcases List.mem_cons.mp hz with rfl | hz
          · omega
          · have := h2 z hz; omega
  intro ns m n h hm hl
  obtain ⟨h1, h2⟩ := low h
  have := hl n h1
  have := h2 m hm
  omega
omit hK in
theorem maxL_ne : ∀ {ns : List Int} {n : Int}, maxL ns = some n → 0 < ns.length
  | _ :: _, _, _ => by simp
theorem cr1_max (hc : X.calm = true) : CallR X (.builtin "max") (rC1 T D.maxD) := by
  intro pins s σ H xs us Q I r ⟨x, e, Z, dx, d, z, hx, hd, k⟩
  subst e
  unfold D.maxD at hd
  split at hd
  · obtain ⟨ns, hb, hd⟩ := Option.bind_eq_some_iff.mp hd
    obtain ⟨n, hn, rfl⟩ := Option.map_eq_some_iff.mp hd
    obtain ⟨a, vs, rfl, h, r1⟩ := hx.lst
    have := r1.ints hb
    subst this
    exact cr_max hc pins s σ H _ us Q I r ⟨a, ns, rfl, by rw [hK]; exact .of h, maxL_ne hn, fun m h1 h2 => by rw [maxL_is hn h1 h2]; exact k _ _ (.refl _) (.int _)⟩
  · cases hd
omit hK in
theorem cr2_max (hc : X.calm = true) : CallR X (.builtin "max") (rC2 T D.max2D) := by
  intro pins s σ H xs us Q I r ⟨x, y, e, Z, dx, dy, d, z, hx, hy, hd, k⟩
  subst e
  unfold D.max2D at hd
  split at hd
  · cases hd; cases hx.int; cases hy.int
    exact call_max2 hc pins s σ H _ us Q I r ⟨_, _, rfl, k _ _ (.refl _) (.int _)⟩
  · cases hd
omit hK in
theorem cr2_min (hc : X.calm = true) : CallR X (.builtin "min") (rC2 T D.min2D) := by
  intro pins s σ H xs us Q I r ⟨x, y, e, Z, dx, dy, d, z, hx, hy, hd, k⟩
  subst e
  unfold D.min2D at hd
  split at hd
  · cases hd; cases hx.int; cases hy.int
    exact call_min2 hc pins s σ H _ us Q I r ⟨_, _, rfl, k _ _ (.refl _) (.int _)⟩
  · cases hd
theorem cr1_tuple : CallR X (.type "tuple") (rC1 T D.tupleD) := by
  intro pins s σ H xs us Q I r ⟨x, e, Z, dx, d, z, hx, hd, k⟩
  subst e
  unfold D.tupleD at hd
  split at hd
  · cases hd
    obtain ⟨a, vs, rfl, h, r1⟩ := hx.lst
    exact call_tuple_of pins s σ H _ us Q I r ⟨a, vs, rfl, .inl ⟨by rw [hK]; exact .of h, fun p hp => k _ _ (.alloc hp) (R.newT hp z r1)⟩⟩
  · cases hd
    obtain ⟨a, vs, rfl, f, h, r1⟩ := hx.tup
    exact call_tuple_of pins s σ H _ us Q I r ⟨a, vs, rfl, .inr ⟨by rw [hK]; exact h, k _ _ (.refl _) (.tup f r1)⟩⟩
  · cases hd
omit hK in
theorem cr1_int : CallR X (.type "int") (rC1 T D.intD) := by
  intro pins s σ H xs us Q I r ⟨x, e, Z, dx, d, z, hx, hd, k⟩
  subst e
  unfold D.intD at hd
  split at hd
  · cases hd; cases hx.int
    exact call_int1 pins s σ H _ us Q I r (.inl ⟨_, rfl, k _ _ (.refl _) (.int _)⟩)
  · cases hd
omit hK in
theorem keys_sum {ws : List (Key × V)} {kvs : List (Key × D)} (e : ws.map (·.1) = kvs.map (·.1)) : ws.map (fun kv => kV kv.1) = kvs.map (fun kv => kV kv.1) := by
  have := congrArg (List.map kV) e
  simpa [List.map_map, Function.comp_def] using this
end
end Lc
namespace Lc
open PySem L2

inductive SRes | nx (ρ : List Sl) | rt (s : Sl) (ρ : List Sl) | bk (ρ : List Sl) | ct (ρ : List Sl) | ex (x : Xc) (ρ : List Sl) | no
abbrev ES := List Sl → SRes
abbrev WX' := Value → Option Addr → St → Hp → Prop
section
variable (T : Tx) (F : Fm) (W : WX')
/-- what comes back: a thing that stays, or a new one that nobody else knows -/
def rR (s : Sl) (ρ : List Sl) (g : Gh) (σ : St) (H : Hp) (v : V) : Prop := match s with
  | .fz d => R T H g.Z v d
  | .ow d => rF T F d ρ g σ H v
  | .no => False
def PoS (r : SRes) (g : Gh) (H : Hp) (D : Ends) : Prop := match r with
  | .nx ρ' => ∀ σ' g' H', Stp F g H g' H' → SR T F g' ρ' σ' H' → D.nx σ' H'
  | .rt s ρ' => ∀ σ' g' H' v, Stp F g H g' H' → SR T F g' ρ' σ' H' → rR T F s ρ' g' σ' H' v → D.rt v H'
  | .bk ρ' => ∀ σ' g' H', Stp F g H g' H' → SR T F g' ρ' σ' H' → D.bk σ' H'
  | .ct ρ' => ∀ σ' g' H', Stp F g H g' H' → SR T F g' ρ' σ' H' → D.ct σ' H'
  | .ex x ρ' => ∀ σ' cls d g' H', Stp F g H g' H' → SR T F g' ρ' σ' H' → XR T g' H' cls d x → W cls d σ' H'
  | .no => False
def denS (t : ES) : TS := fun D σ H => ∃ g ρ, SR T F g ρ σ H ∧ PoS T F W (t ρ) g H D
def SS (X : Cx) (st : Stmt) (t : ES) : Prop := PS X st (denS T F W t)
def SB (X : Cx) (st : List Stmt) (t : ES) : Prop := PSs X st (denS T F W t)
end
section
variable {T : Tx} {F : Fm} {W : WX'} {g g' : Gh} {σ : St} {H H' : Hp} {ρ : List Sl} {En : Ends}
theorem PoS.step {r : SRes} (h : PoS T F W r g H En) (s : Stp F g H g' H') : PoS T F W r g' H' En := by
  cases r with
  | nx ρ' => exact fun σ2 g2 H2 s2 => h σ2 g2 H2 (s.trans s2)
  | rt d ρ' => exact fun σ2 g2 H2 v s2 => h σ2 g2 H2 v (s.trans s2)
  | bk ρ' => exact fun σ2 g2 H2 s2 => h σ2 g2 H2 (s.trans s2)
  | ct ρ' => exact fun σ2 g2 H2 s2 => h σ2 g2 H2 (s.trans s2)
  | ex x ρ' => exact fun σ2 c d g2 H2 s2 => h σ2 c d g2 H2 (s.trans s2)
  | no => exact h
/-- an expression's end, then what follows -/
def Res.thenS {α : Type} (r : Res α) (k : α → List Sl → SRes) : SRes := match r with
  | .ok a ρ => k a ρ
  | .ex x ρ => .ex x ρ
  | .no => .no
theorem denS.bind {α β : Type} {rel : α → List Sl → Gh → St → Hp → β → Prop} {t : List Sl → Res α} {k : α → List Sl → SRes} {Q1 : β → Hp → Prop} (h : denS T F W (fun ρ => (t ρ).thenS k) En σ H)
    (hk : ∀ a ρ1 g0 H0 g1 H1 b, Stp F g0 H0 g1 H1 → SR T F g1 ρ1 σ H1 → rel a ρ1 g1 σ H1 b → PoS T F W (k a ρ1) g1 H1 En → Q1 b H1) : den T F W rel t σ H Q1 := by
  obtain ⟨g, ρ, s, p⟩ := h
  replace p : PoS T F W ((t ρ).thenS k) g H En := p
  refine ⟨g, ρ, s, ?_⟩
  cases q : t ρ with
  | ok a ρ1 => rw [q] at p; exact fun b g1 H1 s1 e1 r1 => hk a ρ1 g H g1 H1 b s1 e1 r1 (PoS.step p s1)
  | ex x ρ' => rw [q] at p; exact fun cls d g1 H1 s1 e1 r1 => p σ cls d g1 H1 s1 e1 r1
  | no => rw [q] at p; exact p
/-- a slot is stored -/
theorem SR.setFz (s : SR T F g ρ σ H) {i : Nat} {v : V} {d : D} (hp : F.pn i = false) (r : R T H g.Z v d) : SR T F g (ρ.set i (.fz d)) (σ.set i (some v)) H where
  len := by rw [List.length_set, List.length_set]; exact s.len
  fz := fun j e q => by
    rw [List.getElem?_set] at q
    split at q
    · rename_i e1; subst e1
      split at q
      · rename_i hl; cases q; exact ⟨v, by rw [List.getElem?_set, if_pos rfl, if_pos (by rw [← s.len]; exact hl)], r⟩
      · cases q
    · rename_i ne
      obtain ⟨w, hw, r⟩ := s.fz j e q
      exact ⟨w, by rw [List.getElem?_set_ne ne]; exact hw, r⟩
  ow := fun j e q => by
    rw [List.getElem?_set] at q
    split at q
    · split at q <;> cases q
    · rename_i ne
      obtain ⟨w, hw, r⟩ := s.ow j e q
      exact ⟨w, by rw [List.getElem?_set_ne ne]; exact hw, r⟩
  dj := fun j k e f hjk q1 q2 => by
    rw [List.getElem?_set] at q1 q2
    split at q1
    · split at q1 <;> cases q1
    · split at q2
      · split at q2 <;> cases q2
      · exact s.dj j k e f hjk q1 q2
  yz := s.yz
  zl := s.zl
  pin := fun j hj => by
    have ne : i ≠ j := fun e => by subst e; rw [hp] at hj; cases hj
    rw [List.getElem?_set_ne ne]; exact s.pin j hj
def Gh.at (g : Gh) (i : Nat) (fp : List Addr) : Gh := ⟨g.Z, fun j => if j = i then fp else g.fp j⟩
theorem Stp.at {i : Nat} {fp : List Addr} : Stp F g H (g.at i fp) H := ⟨Step.refl _ _, fun _ _ => rfl⟩
theorem SR.setOw (s : SR T F g ρ σ H) {i : Nat} {v : V} {d : D} {fp : List Addr} (hp : F.pn i = false) (o : Own T H g.Z v d fp) (hz : ∀ a ∈ fp, g.Z a ∧ ¬ F.Y a) (hd : ∀ (j : Nat) (e : D), ρ[j]? = some (Sl.ow e) → ∀ a ∈ g.fp j, a ∉ fp) :
    SR T F (g.at i fp) (ρ.set i (.ow d)) (σ.set i (some v)) H where
  len := by rw [List.length_set, List.length_set]; exact s.len
  fz := fun j e q => by
    rw [List.getElem?_set] at q
    split at q
    · split at q <;> cases q
    · rename_i ne
      obtain ⟨w, hw, r⟩ := s.fz j e q
      exact ⟨w, by rw [List.getElem?_set_ne ne]; exact hw, r⟩
  ow := fun j e q => by
    rw [List.getElem?_set] at q
    split at q
    · rename_i e1; subst e1
      split at q
      · rename_i hl; cases q
        refine ⟨v, by rw [List.getElem?_set, if_pos rfl, if_pos (by rw [← s.len]; exact hl)], ?_⟩
        simp only [Gh.at, if_pos]
        exact ⟨o, hz⟩
      · cases q
    · rename_i ne
      obtain ⟨w, hw, r⟩ := s.ow j e q
      refine ⟨w, by rw [List.getElem?_set_ne ne]; exact hw, ?_⟩
      simp only [Gh.at, if_neg (Ne.symm ne)]
      exact r
  dj := fun j k e f hjk q1 q2 => by
    rw [List.getElem?_set] at q1 q2
    split at q1
    · rename_i e1; subst e1
      rw [if_neg hjk] at q2
      simp only [Gh.at, if_pos, if_neg (Ne.symm hjk)]
      exact fun a ha hb => hd k f q2 a hb ha
    · rename_i ne
      split at q2
      · rename_i e2; subst e2
        simp only [Gh.at, if_pos, if_neg hjk]
        exact hd j e q1
      · rename_i ne2
        simp only [Gh.at, if_neg (Ne.symm ne), if_neg (Ne.symm ne2)]
        exact s.dj j k e f hjk q1 q2
  yz := s.yz
  zl := s.zl
  pin := fun j hj => by
    have ne : i ≠ j := fun e => by subst e; rw [hp] at hj; cases hj
    rw [List.getElem?_set_ne ne]; exact s.pin j hj
/-- a slot's own thing is written -/
theorem SR.write (s : SR T F g ρ σ H) {i : Nat} {d d' : D} (h : ρ[i]? = some (.ow d)) (off : ∀ b, b ∉ g.fp i → H' b = H b) (on : ∀ b ∈ g.fp i, ∃ o, H' b = some o)
    (tb : ∀ b ∈ g.fp i, (∀ ps, H b ≠ some (.tbl ps)) ∧ ∀ o u, H b ≠ some (.frz o u)) (new : ∀ v, σ[i]? = some (some v) → Step H g.Z H' g.Z → Own T H' g.Z v d' (g.fp i)) :
    Stp F g H g H' ∧ SR T F g (ρ.set i (.ow d')) σ H' := by
  obtain ⟨v, hv, o, hz⟩ := s.ow i d h
  have st : Step H g.Z H' g.Z := by
    refine ⟨fun b o e nz _ => ?_, fun b z => .inl z, fun b o e => ?_, fun b ps e => ?_, fun b o xs e => ?_, fun b u _ e nz => by unfold Rd at e ⊢; rw [off b fun hb => nz (hz b hb).1]; exact e⟩
    · rw [off b fun hb => nz (hz b hb).1]; exact e
    · by_cases hb : b ∈ g.fp i
      · exact on b hb
      · exact ⟨o, by rw [off b hb]; exact e⟩
    · exact ⟨ps, by rw [off b fun hb => (tb b hb).1 ps e]; exact e⟩
    · rw [off b fun hb => (tb b hb).2 o _ e]; exact e
  refine ⟨⟨st, fun a y => off a fun ha => (hz a ha).2 y⟩, ⟨by rw [List.length_set]; exact s.len, fun j e q => ?_, fun j e q => ?_, fun j k e f hjk q1 q2 => ?_, s.yz, fun a z => ?_, s.pin⟩⟩
  · rw [List.getElem?_set] at q
    split at q
    · split at q <;> cases q
    · obtain ⟨w, hw, r⟩ := s.fz j e q
      exact ⟨w, hw, R.step st r⟩
  · rw [List.getElem?_set] at q
    split at q
    · rename_i e1; subst e1
      split at q
      · cases q; exact ⟨v, hv, new v hv st, hz⟩
      · cases q
    · rename_i ne
      obtain ⟨w, hw, r, hz2⟩ := s.ow j e q
      exact ⟨w, hw, r.step st (fun a ha => off a fun hb => s.dj i j d e ne h q a hb ha), hz2⟩
  · have h1 : ∃ e', ρ[j]? = some (Sl.ow e') := by
      rw [List.getElem?_set] at q1
      split at q1
      · rename_i e1; subst e1; exact ⟨d, h⟩
      · exact ⟨e, q1⟩
    have h2 : ∃ e', ρ[k]? = some (Sl.ow e') := by
      rw [List.getElem?_set] at q2
      split at q2
      · rename_i e1; subst e1; exact ⟨d, h⟩
      · exact ⟨f, q2⟩
    obtain ⟨e1, h1⟩ := h1
    obtain ⟨e2, h2⟩ := h2
    exact s.dj j k e1 e2 hjk h1 h2
  · by_cases ha : a ∈ g.fp i
    · obtain ⟨o, ho⟩ := on a ha
      rw [ho]; simp
    · rw [off a ha]; exact s.zl a z
end

def sNo : ES := fun _ => .no
def sNil : ES := .nx
def sPass : ES := .nx
def sBrk : ES := .bk
def sCnt : ES := .ct
def sSeq (t u : ES) : ES := fun ρ => match t ρ with
  | .nx ρ' => u ρ'
  | r => r
def sEx (t : EE) : ES := fun ρ => (t ρ).thenS fun _ ρ => .nx ρ
def sRet (t : EE) : ES := fun ρ => (t ρ).thenS fun d ρ => .rt (.fz d) ρ
def sRetN : ES := fun ρ => .rt (.fz .non) ρ
/-- a new thing is told -/
def sRetF (t : EE) : ES := fun ρ => (t ρ).thenS fun d ρ => .rt (.ow d) ρ
/-- a slot's own thing is told -/
def sRetO (i : Nat) : ES := fun ρ => match ρ.getD i .no with
  | .ow d => .rt (.ow d) (ρ.set i .no)
  | _ => .no
def sIf (c : EB) (t u : ES) : ES := fun ρ => (c ρ).thenS fun b ρ => if b then t ρ else u ρ
def sSet (pn : Nat → Bool) (i : Nat) (t : EE) : ES := fun ρ => (t ρ).thenS fun d ρ => if pn i then .no else .nx (ρ.set i (.fz d))
def sOwn (pn : Nat → Bool) (i : Nat) (t : EE) : ES := fun ρ => (t ρ).thenS fun d ρ => if pn i then .no else .nx (ρ.set i (.ow d))
def sWh (c : EB) (b : ES) : Nat → ES
  | 0 => sNo
  | n + 1 => fun ρ => (c ρ).thenS fun k ρ => if k then (match b ρ with
      | .nx ρ => sWh c b n ρ
      | .ct ρ => sWh c b n ρ
      | .bk ρ => .nx ρ
      | r => r) else .nx ρ

section
variable {T : Tx} {F : Fm} {W : WX'} {X : Cx} {e : Expr} {st : Stmt} {sts : List Stmt} {pos p pos' : Pos} {i : Nat} {x : Str} {t u : ES}
theorem ps_imp {t t' : TS} (h : PS X st t) (k : ∀ D σ H, t' D σ H → t D σ H) : PS X st t' := ⟨fun pins s σ H D I q => h.run pins s σ H D I (k _ _ _ q)⟩
theorem pss_imp {t t' : TS} (h : PSs X sts t) (k : ∀ D σ H, t' D σ H → t D σ H) : PSs X sts t' := ⟨fun pins s σ H D I q => h.run pins s σ H D I (k _ _ _ q)⟩
theorem k_no : SS T F W X st sNo := ⟨fun _ _ _ _ _ _ h => by obtain ⟨g, ρ, _, h⟩ := h; exact h.elim⟩
theorem k_noB : SB T F W X sts sNo := ⟨fun _ _ _ _ _ _ h => by obtain ⟨g, ρ, _, h⟩ := h; exact h.elim⟩
theorem k_nil : SB T F W X [] sNil := pss_imp pss_nil fun D σ H q => by
  obtain ⟨g, ρ, s, p⟩ := q
  exact p σ g H .refl s
theorem k_cons (h : SS T F W X st t) (hr : SB T F W X sts u) : SB T F W X (st :: sts) (sSeq t u) := by
  refine pss_imp (pss_cons h hr) fun D σ H q => ?_
  obtain ⟨g, ρ, s, p⟩ := q
  refine ⟨g, ρ, s, ?_⟩
  unfold sSeq at p
  cases q : t ρ with
  | nx ρ' => rw [q] at p; exact fun σ' g' H' s' e' => ⟨g', ρ', e', PoS.step p s'⟩
  | rt d ρ' => rw [q] at p; exact p
  | bk ρ' => rw [q] at p; exact p
  | ct ρ' => rw [q] at p; exact p
  | ex x ρ' => rw [q] at p; exact p
  | no => rw [q] at p; exact p
theorem k_pass : SS T F W X (.Pass pos) sPass := ps_imp ps_pass fun D σ H q => by
  obtain ⟨g, ρ, s, p⟩ := q
  exact p σ g H .refl s
theorem k_brk : SS T F W X (.Break pos) sBrk := ps_imp ps_break fun D σ H q => by
  obtain ⟨g, ρ, s, p⟩ := q
  exact p σ g H .refl s
theorem k_cnt : SS T F W X (.Continue pos) sCnt := ps_imp ps_continue fun D σ H q => by
  obtain ⟨g, ρ, s, p⟩ := q
  exact p σ g H .refl s
theorem k_ex {te : EE} (h : SE T F W X e te) (hs : swapsWith e none pos.line X.env = pure false := by rfl) : SS T F W X (.Expr e pos) (sEx te) :=
  ps_imp (ps_expr h hs) fun D σ H q => denS.bind q fun d ρ1 g0 H0 g1 H1 v s1 e1 r1 p1 => p1 σ g1 H1 .refl e1
theorem k_ret {te : EE} (h : SE T F W X e te) : SS T F W X (.Return (some e) pos) (sRet te) :=
  ps_imp (ps_ret h) fun D σ H q => denS.bind q fun d ρ1 g0 H0 g1 H1 v s1 e1 r1 p1 => p1 σ g1 H1 v .refl e1 r1
theorem k_retF {te : EE} (h : SN T F W X e te) : SS T F W X (.Return (some e) pos) (sRetF te) :=
  ps_imp (ps_ret h) fun D σ H q => denS.bind q fun d ρ1 g0 H0 g1 H1 v s1 e1 r1 p1 => p1 σ g1 H1 v .refl e1 r1
theorem k_retN : SS T F W X (.Return none pos) sRetN := ps_imp ps_retN fun D σ H q => by
  obtain ⟨g, ρ, s, p⟩ := q
  exact p σ g H .non .refl s .non
/-- a slot is forgotten -/
theorem SR.drop {g : Gh} {ρ : List Sl} {σ : St} {H : Hp} (s : SR T F g ρ σ H) (i : Nat) : SR T F g (ρ.set i .no) σ H where
  len := by rw [List.length_set]; exact s.len
  fz := fun j e q => by
    rw [List.getElem?_set] at q
    split at q
    · split at q <;> cases q
    · exact s.fz j e q
  ow := fun j e q => by
    rw [List.getElem?_set] at q
    split at q
    · split at q <;> cases q
    · exact s.ow j e q
  dj := fun j k e f hjk q1 q2 => by
    rw [List.getElem?_set] at q1 q2
    split at q1
    · split at q1 <;> cases q1
    · split at q2
      · split at q2 <;> cases q2
      · exact s.dj j k e f hjk q1 q2
  yz := s.yz
  zl := s.zl
  pin := s.pin
theorem k_retO (hN : X.N[i]? = some x) (hv : Vis X.env.scope x) (hd : (x == ("__debug__" : Str)) = false := by decide) (hcd : (x == ("__classdict__" : Str)) = false := by decide) : SS T F W X (.Return (some (.Name x p)) pos) (sRetO i) := by
  refine ps_imp (ps_ret (pe_var hN hv hd hcd)) fun D σ H q => ?_
  obtain ⟨g, ρ, s, p⟩ := q
  unfold sRetO at p
  split at p
  · rename_i d q
    have q := getD_some q (by simp)
    obtain ⟨v, hv, o, hz⟩ := s.ow i d q
    refine ⟨v, hv, p σ g H v .refl (s.drop i) ⟨_, o, hz, fun j e q2 a ha => ?_⟩⟩
    rw [List.getElem?_set] at q2
    split at q2
    · split at q2 <;> cases q2
    · rename_i ne
      exact fun hb => s.dj j i e d (Ne.symm ne) q2 q a ha hb
  · exact p.elim
theorem k_if {c : Expr} {a b : List Stmt} {tc : EB} (hc : ST T F W X c tc) (ha : SB T F W X a t) (hb : SB T F W X b u) : SS T F W X (.If c a b pos) (sIf tc t u) :=
  ps_imp (ps_if hc ha hb) fun D σ H q => denS.bind q fun d ρ1 g0 H0 g1 H1 v s1 e1 r1 p1 => by
    cases r1
    cases d
    · exact ⟨g1, ρ1, e1, p1⟩
    · exact ⟨g1, ρ1, e1, p1⟩
theorem k_set {te : EE} (hN : X.N.Nodup) (hi : X.N[i]? = some x) (hx : Loc X.env.scope x) (h : SE T F W X e te) (hs : swapsWith e (some (.Name x pos')) pos.line X.env = pure false := by rfl) (hf : X.fn x = true ∨ X.env.scope.names.lookup x = some .local := by first | exact .inl rfl | exact .inr rfl | assumption) :
    SS T F W X (.Assign [.Name x pos'] e pos) (sSet F.pn i te) := by
  refine ps_imp (ps_set hN hi hx h hs hf) fun D σ H q => denS.bind q fun d ρ1 g0 H0 g1 H1 v s1 e1 r1 p1 => ?_
  split at p1
  · exact p1.elim
  · rename_i hp
    exact p1 _ g1 H1 .refl (e1.setFz (by simpa using hp) r1)
theorem k_own {te : EE} (hN : X.N.Nodup) (hi : X.N[i]? = some x) (hx : Loc X.env.scope x) (h : SN T F W X e te) (hs : swapsWith e (some (.Name x pos')) pos.line X.env = pure false := by rfl) (hf : X.fn x = true ∨ X.env.scope.names.lookup x = some .local := by first | exact .inl rfl | exact .inr rfl | assumption) :
    SS T F W X (.Assign [.Name x pos'] e pos) (sOwn F.pn i te) := by
  refine ps_imp (ps_set hN hi hx h hs hf) fun D σ H q => denS.bind q fun d ρ1 g0 H0 g1 H1 v s1 e1 r1 p1 => ?_
  split at p1
  · exact p1.elim
  · rename_i hp
    obtain ⟨fp, o, hz, hd⟩ := r1
    exact p1 _ (g1.at i fp) H1 .at (e1.setOw (by simpa using hp) o hz hd)
theorem k_wh {c : Expr} {body : List Stmt} {tc : EB} (n : Nat) (hp : PassesOwn (model X.prog X.w) X.A X.env X.xe) (hc : ST T F W X c tc) (hb : SB T F W X body t) : SS T F W X (.While c body [] pos) (sWh tc t n) := by
  refine ps_imp (ps_while hp hc hb) fun D σ H q => ?_
  refine ⟨fun m σ H => ∃ g ρ, SR T F g ρ σ H ∧ PoS T F W (sWh tc t m ρ) g H D, ⟨n, q⟩, ?_⟩
  rintro m σ H ⟨g, ρ, s, p⟩
  cases m with
  | zero => exact p.elim
  | succ m =>
    have q : denS T F W (sWh tc t (m + 1)) D σ H := ⟨g, ρ, s, p⟩
    refine denS.bind q fun d ρ1 g0 H0 g1 H1 v s1 e1 r1 p1 => ?_
    cases r1
    cases d
    · exact p1 σ g1 H1 .refl e1
    · refine ⟨fun σ H => ∃ g ρ, SR T F g ρ σ H ∧ PoS T F W (sWh tc t m ρ) g H D, fun σ' H' h => ⟨m, Nat.lt_succ_self m, h⟩, g1, ρ1, e1, ?_⟩
      cases q2 : t ρ1 with
      | nx ρ' => simp only [q2] at p1; exact fun σ' g' H' s' e' => ⟨g', ρ', e', PoS.step p1 s'⟩
      | ct ρ' => simp only [q2] at p1; exact fun σ' g' H' s' e' => ⟨g', ρ', e', PoS.step p1 s'⟩
      | rt d ρ' => simp only [q2] at p1; exact p1
      | bk ρ' => simp only [q2] at p1; exact p1
      | ex x ρ' => simp only [q2] at p1; exact p1
      | no => simp only [q2] at p1; exact p1.elim
end

abbrev GT := D → List Sl → Option (List Sl)
def gSet (i : Nat) : GT := fun d ρ => some (ρ.set i (.fz d))
def gTupT (ts : List GT) : GT := fun d ρ => match d with
  | .tup ds => go ts ds ρ
  | _ => none
where go : List GT → List D → List Sl → Option (List Sl)
  | [], [], ρ => some ρ
  | t :: ts, d :: ds, ρ => (t d ρ).bind (go ts ds)
  | _, _, _ => none
def gLstT (ts : List GT) : GT := fun d ρ => match d with
  | .lst ds => gTupT.go ts ds ρ
  | _ => none
def Bar (tv : List Nat) (σ σ' : St) : Prop := σ'.length = σ.length ∧ ∀ j, j ∉ tv → σ'[j]? = σ[j]?
/-- the target takes a thing; only the slots tv change -/
def denG (T : Tx) (F : Fm) (tv : List Nat) (f : GT) : TG := fun v σ H Q => ∃ g ρ d ρ', SR T F g ρ σ H ∧ R T H g.Z v d ∧ f d ρ = some ρ' ∧
  ∀ σ', SR T F g ρ' σ' H → Bar tv σ σ' → Q σ' H
def denGs (T : Tx) (F : Fm) (tv : List Nat) (f : List D → List Sl → Option (List Sl)) : TGs := fun vs σ H Q => ∃ g ρ ds ρ', SR T F g ρ σ H ∧ RA T H g.Z vs ds ∧ f ds ρ = some ρ' ∧
  ∀ σ', SR T F g ρ' σ' H → Bar tv σ σ' → Q σ' H
section
variable {T : Tx} {F : Fm} {X : Cx} {pos : Pos} {i : Nat} {x : Str} {e : Expr} {es : List Expr} {tv tv1 tv2 : List Nat} {f : GT} {fs : List GT}
theorem pg_imp {t t' : TG} (h : PG X e t) (k : ∀ v σ H Q, t' v σ H Q → t v σ H Q) : PG X e t' := ⟨fun pins s σ H v u Q I r q => h.run pins s σ H v u Q I r (k _ _ _ _ q)⟩
theorem pgs_imp {t t' : TGs} (h : PGs X es t) (k : ∀ v σ H Q, t' v σ H Q → t v σ H Q) : PGs X es t' := ⟨fun pins s σ H v u Q I r q => h.run pins s σ H v u Q I r (k _ _ _ _ q)⟩
theorem g_name (hN : X.N.Nodup) (hi : X.N[i]? = some x) (hx : Loc X.env.scope x) (hp : F.pn i = false) (hf : X.fn x = true ∨ X.env.scope.names.lookup x = some .local := by first | exact .inl rfl | exact .inr rfl | assumption) : PG X (.Name x pos) (denG T F [i] (gSet i)) := by
  refine pg_imp (pg_name hN hi hx hf) fun v σ H Q q => ?_
  obtain ⟨g, ρ, d, ρ', s, r, e, k⟩ := q
  cases e
  refine k _ (s.setFz hp r) ⟨List.length_set, fun j hj => ?_⟩
  rw [List.getElem?_set_ne (fun e => hj (by simp [e]))]
theorem gs_nil : PGs X [] (denGs T F [] (gTupT.go [])) := pgs_imp pgs_nil fun vs σ H Q q => by
  obtain ⟨g, ρ, ds, ρ', s, r, e, k⟩ := q
  cases r with
  | nil => cases e; exact ⟨rfl, k σ s ⟨rfl, fun _ _ => rfl⟩⟩
  | cons r t => cases e
theorem gs_cons (h1 : PG X e (denG T F tv1 f)) (h2 : PGs X es (denGs T F tv2 (gTupT.go fs)))
    (hs : (assignEach (e :: es) X.env).map (·.2) = assign e X.env :: (assignEach es X.env).map (·.2) := by rfl) : PGs X (e :: es) (denGs T F (tv1 ++ tv2) (gTupT.go (f :: fs))) := by
  refine pgs_imp (pgs_cons h1 h2 hs) fun vs σ H Q q => ?_
  obtain ⟨g, ρ, ds, ρ', s, r, e, k⟩ := q
  cases r with
  | nil => cases e
  | cons r t =>
    simp only [gTupT.go, Option.bind_eq_some_iff] at e
    obtain ⟨ρ1, e1, e2⟩ := e
    refine ⟨_, _, rfl, g, ρ, _, ρ1, s, r, e1, fun σ1 s1 k1 => ⟨g, ρ1, _, ρ', s1, t, e2, fun σ2 s2 k2 => k σ2 s2 ⟨k2.1.trans k1.1, fun j hj => ?_⟩⟩⟩
    rw [List.mem_append, not_or] at hj
    rw [k2.2 j hj.2, k1.2 j hj.1]
theorem g_tup {k : Nat} {n : Nat} (hK : X.K = T.K) (hc : X.calm = true) (h : PGs X es (denGs T F tv (gTupT.go fs))) (hl : fs.length = n := by rfl)
    (hn : (assignEach es X.env).length = n := by rfl) (hst : (assignEach es X.env).findIdx? (·.1) = none := by rfl) : PG X (.Tuple es k pos) (denG T F tv (gTupT fs)) := by
  refine pg_imp (pg_tup hc h hn hst) fun v σ H Q q => ?_
  obtain ⟨g, ρ, d, ρ', s, r, e, k⟩ := q
  cases d <;> simp only [gTupT, reduceCtorEq] at e
  obtain ⟨a, xs, rfl, f1, h1, ra⟩ := (Rv.of r).tup
  refine ⟨a, xs, rfl, by rw [hK]; exact h1, ?_, g, ρ, _, ρ', s, ra, e, k⟩
  rw [ra.len, ← hl]
  clear hl h k s h1 f1 ra r
  rename_i ds
  revert ρ
  induction fs generalizing ds with
  | nil => intro ρ e; cases ds with
    | nil => rfl
    | cons => cases e
  | cons f fs ih => intro ρ e; cases ds with
    | nil => cases e
    | cons d ds =>
      simp only [gTupT.go, Option.bind_eq_some_iff] at e
      obtain ⟨ρ1, _, e2⟩ := e
      have := ih _ _ e2
      simp [this]
end
end Lc
namespace Lc
open PySem L2

def rIt (T : Tx) (F : Fm) (ds : List D) (_ : List Sl) (g : Gh) (_ : St) (H : Hp) (J : It) : Prop :=
  (∀ g' H' i, Stp F g H g' H' → i < ds.length → J.go i H') ∧ (∀ g' H', Stp F g H g' H' → J.stop ds.length H') ∧
  ∀ g' H' i x H'', Stp F g H g' H' → (∀ a, g'.Z a → H' a ≠ none) → i < ds.length → J.yld i H' x H'' → ∃ d, ds[i]? = some d ∧ Gr H' H'' ∧ R T H'' g'.Z x d
abbrev EI := List Sl → Res (List D)
def SI (T : Tx) (F : Fm) (W : WX') (X : Cx) (tg it : Expr) (t : EI) : Prop := PI X tg it (den T F W (rIt T F) t)

def sFor (set : GT) (body : ES) : List D → ES
  | [] => .nx
  | d :: r => fun ρ => match set d ρ with
    | none => .no
    | some ρ1 => match body ρ1 with
      | .nx ρ2 => sFor set body r ρ2
      | .ct ρ2 => sFor set body r ρ2
      | .bk ρ2 => .nx ρ2
      | q => q
def sForI (it : EI) (set : GT) (body : ES) : ES := fun ρ => (it ρ).thenS fun ds ρ => sFor set body ds ρ

section
variable {T : Tx} {F : Fm} {W : WX'} {X : Cx} {tg iter : Expr} {body : List Stmt} {pos : Pos} {set : GT} {tb : ES} {ti : EI} {tv : List Nat}
theorem k_for (hp : PassesOwn (model X.prog X.w) X.A X.env X.xe) (hc : X.calm = true) (hi : SI T F W X tg iter ti) (hg : PG X tg (denG T F tv set)) (hb : SB T F W X body tb)
    (hs : ∀ x, foldedSetIterable iter X.env x = pure x := by intro _; rfl) : SS T F W X (.For tg iter body [] pos) (sForI ti set tb) := by
  refine ps_imp (ps_for hp hc hi hg hb hs) fun En σ H q => denS.bind q fun ds ρ1 g0 H0 g1 H1 J s1 e1 r1 p1 => ?_
  refine ⟨fun i m σ H => m = ds.length - i ∧ i ≤ ds.length ∧ ∃ g ρ, Stp F g1 H1 g H ∧ SR T F g ρ σ H ∧ PoS T F W (sFor set tb (ds.drop i) ρ) g H En, ⟨ds.length, rfl, Nat.zero_le _, g1, ρ1, .refl, e1, p1⟩, ?_⟩
  rintro i m σ H ⟨rfl, hi, g, ρ, s, e, p⟩
  rcases Nat.lt_or_ge i ds.length with hl | hl
  · right
    refine ⟨r1.1 g H i s hl, fun σ' H' => ∃ g' ρ', Stp F g1 H1 g' H' ∧ SR T F g' ρ' σ' H' ∧ PoS T F W (sFor set tb (ds.drop (i + 1)) ρ') g' H' En, fun σ' H' ⟨g', ρ', h⟩ => ⟨ds.length - (i + 1), by omega, rfl, hl, g', ρ', h⟩, fun x H' hy => ?_⟩
    obtain ⟨d, hd, gr, r⟩ := r1.2.2 g H i x H' s e.zl hl hy
    have hdr : ds.drop i = d :: ds.drop (i + 1) := by
      rw [List.drop_eq_getElem_cons hl]
      rw [List.getElem?_eq_getElem hl] at hd
      cases hd; rfl
    rw [hdr] at p
    simp only [sFor] at p
    cases q1 : set d ρ with
    | none => rw [q1] at p; exact p.elim
    | some ρ2 =>
      rw [q1] at p
      have s2 : Stp F g H g H' := .gr gr e
      refine ⟨g, ρ, d, ρ2, e.gr gr, r, q1, fun σ' e' _ => ⟨g, ρ2, e', ?_⟩⟩
      have p' := PoS.step p s2
      cases q2 : tb ρ2 with
      | nx ρ' => simp only [q2] at p'; exact fun σ' g' H' s' e' => ⟨g', ρ', (s.trans s2).trans s', e', PoS.step p' s'⟩
      | ct ρ' => simp only [q2] at p'; exact fun σ' g' H' s' e' => ⟨g', ρ', (s.trans s2).trans s', e', PoS.step p' s'⟩
      | rt d ρ' => simp only [q2] at p'; exact p'
      | bk ρ' => simp only [q2] at p'; exact p'
      | ex x ρ' => simp only [q2] at p'; exact p'
      | no => simp only [q2] at p'; exact p'.elim
  · left
    have hin : i = ds.length := Nat.le_antisymm hi hl
    subst hin
    rw [List.drop_length] at p
    exact ⟨r1.2.1 g H s, p σ g H .refl e⟩
end

def wipeE (ρ : List Sl) : List Nat → List Sl
  | [] => ρ
  | i :: is => (wipeE ρ is).set i .no
/-- the slots ws as in ρ0, the others as in ρ -/
def backE (ρ0 ρ : List Sl) : List Nat → List Sl
  | [] => ρ
  | i :: is => (backE ρ0 ρ is).set i (ρ0.getD i .no)
def noOw (ρ : List Sl) (ws : List Nat) : Bool := ws.all fun i => match ρ.getD i .no with
  | .ow _ => false
  | _ => true
theorem wipeE_len (ρ : List Sl) : ∀ ws, (wipeE ρ ws).length = ρ.length
  | [] => rfl
  | i :: is => by simp [wipeE, wipeE_len ρ is]
theorem backE_len (ρ0 ρ : List Sl) : ∀ ws, (backE ρ0 ρ ws).length = ρ.length
  | [] => rfl
  | i :: is => by simp [backE, backE_len ρ0 ρ is]
theorem wipeE_at {ρ : List Sl} {j : Nat} : ∀ {ws : List Nat}, j ∉ ws → (wipeE ρ ws)[j]? = ρ[j]?
  | [], _ => rfl
  | i :: is, h => by
    simp only [List.mem_cons, not_or] at h
    simp only [wipeE]
    rw [List.getElem?_set_ne (Ne.symm h.1), wipeE_at h.2]
theorem wipeE_in {ρ : List Sl} {j : Nat} {s : Sl} : ∀ {ws : List Nat}, j ∈ ws → (wipeE ρ ws)[j]? = some s → s = .no
  | i :: is, h, e => by
    simp only [wipeE] at e
    rw [List.getElem?_set] at e
    split at e
    · split at e
      · cases e; rfl
      · cases e
    · rename_i ne
      rcases List.mem_cons.mp h with rfl | h
      · exact absurd rfl ne
      · exact wipeE_in h e
theorem backE_at {ρ0 ρ : List Sl} {j : Nat} : ∀ {ws : List Nat}, j ∉ ws → (backE ρ0 ρ ws)[j]? = ρ[j]?
  | [], _ => rfl
  | i :: is, h => by
    simp only [List.mem_cons, not_or] at h
    simp only [backE]
    rw [List.getElem?_set_ne (Ne.symm h.1), backE_at h.2]
theorem backE_in {ρ0 ρ : List Sl} {j : Nat} {s : Sl} : ∀ {ws : List Nat}, j ∈ ws → (backE ρ0 ρ ws)[j]? = some s → s = ρ0.getD j .no
  | i :: is, h, e => by
    simp only [backE] at e
    rw [List.getElem?_set] at e
    split at e
    · rename_i e1; subst e1
      split at e
      · cases e; rfl
      · cases e
    · rename_i ne
      rcases List.mem_cons.mp h with rfl | h
      · exact absurd rfl ne
      · exact backE_in h e
theorem wipe_at {σ : St} {j : Nat} : ∀ {ws : List Nat}, j ∉ ws → (wipe σ ws)[j]? = σ[j]?
  | [], _ => rfl
  | i :: is, h => by
    simp only [List.mem_cons, not_or] at h
    simp only [wipe]
    rw [List.getElem?_set_ne (Ne.symm h.1), wipe_at h.2]
theorem wipe_in {σ : St} {j : Nat} : ∀ {ws : List Nat}, j ∈ ws → (wipe σ ws)[j]? = if j < σ.length then some none else none
  | i :: is, h => by
    simp only [wipe]
    rw [List.getElem?_set, wipe_length]
    split
    · rename_i e; subst e; rfl
    · rename_i ne
      rcases List.mem_cons.mp h with rfl | h
      · exact absurd rfl ne
      · exact wipe_in h
theorem wipe_eq {σ σ' : St} {ws : List Nat} (hl : σ'.length = σ.length) (h : ∀ j, j ∉ ws → σ'[j]? = σ[j]?) : wipe σ' ws = wipe σ ws := by
  apply List.ext_getElem?
  intro j
  by_cases q : j ∈ ws
  · rw [wipe_in q, wipe_in q, hl]
  · rw [wipe_at q, wipe_at q, h j q]
theorem wipe_wipe (σ : St) (ws : List Nat) : wipe (wipe σ ws) ws = wipe σ ws := wipe_eq (wipe_length _ _) fun j h => wipe_at h
/-- the frame of a comprehension's turns: its list is kept, its own slots may be stored -/
def Fm.blk (F : Fm) (ws : List Nat) (D : Addr) : Fm := ⟨fun a => F.Y a ∨ a = D, fun i => F.pn i && !ws.contains i, F.s0⟩
section
variable {T : Tx} {F : Fm} {g g' : Gh} {σ : St} {H H' : Hp} {ρ ρ0 : List Sl} {ws : List Nat} {Dl : Addr}
theorem SR.wipeB (s : SR T (F.blk ws Dl) g ρ σ H) : SR T (F.blk ws Dl) g (wipeE ρ ws) (wipe σ ws) H := by
  have at_ : ∀ {i : Nat} {sl : Sl}, (wipeE ρ ws)[i]? = some sl → sl ≠ .no → i ∉ ws ∧ ρ[i]? = some sl := fun {i sl} q n => by
    by_cases h : i ∈ ws
    · exact absurd (wipeE_in h q) n
    · exact ⟨h, (wipeE_at h).symm.trans q⟩
  refine ⟨by rw [wipeE_len, wipe_length]; exact s.len, fun i d q => ?_, fun i d q => ?_, fun i j d e hij q1 q2 => ?_, s.yz, s.zl, fun i hi => ?_⟩
  · obtain ⟨h, q⟩ := at_ q (by simp)
    rw [wipe_at h]; exact s.fz i d q
  · obtain ⟨h, q⟩ := at_ q (by simp)
    rw [wipe_at h]; exact s.ow i d q
  · exact s.dj i j d e hij (at_ q1 (by simp)).2 (at_ q2 (by simp)).2
  · have h2 : i ∉ ws := by simp only [Fm.blk, Bool.and_eq_true] at hi; simpa using hi.2
    rw [wipe_at h2]; exact s.pin i hi
/-- into the frame of the turns -/
theorem SR.toBlk (s : SR T F g ρ σ H) (hz : g.Z Dl) (hd : ∀ (i : Nat) (e : D), ρ[i]? = some (Sl.ow e) → ∀ a ∈ g.fp i, a ≠ Dl) : SR T (F.blk ws Dl) g ρ σ H where
  len := s.len
  fz := s.fz
  ow := fun i d q => by
    obtain ⟨v, hv, o, hz2⟩ := s.ow i d q
    exact ⟨v, hv, o, fun a ha => ⟨(hz2 a ha).1, fun y => y.elim (hz2 a ha).2 (hd i d q a ha)⟩⟩
  dj := s.dj
  yz := fun a y => y.elim (s.yz a) (fun e => e ▸ hz)
  zl := s.zl
  pin := fun i hi => s.pin i (by simp only [Fm.blk, Bool.and_eq_true] at hi; exact hi.1)
theorem Stp.ofBlk (s : Stp (F.blk ws Dl) g H g' H') : Stp F g H g' H' := ⟨s.st, fun a y => s.pr a (.inl y)⟩
/-- out of it -/
theorem SR.ofBlk {g0 : Gh} {H0 : Hp} (s0 : SR T F g0 ρ0 σ H0) (st : Stp F g0 H0 g H) (s : SR T (F.blk ws Dl) g (wipeE ρ ws) (wipe σ ws) H) (n : noOw ρ0 ws = true) :
    SR T F g (backE ρ0 ρ ws) σ H ∧ ∀ (i : Nat) (e : D), (backE ρ0 ρ ws)[i]? = some (Sl.ow e) → ∀ a ∈ g.fp i, a ≠ Dl := by
  have out : ∀ {i : Nat} {sl : Sl}, i ∉ ws → (backE ρ0 ρ ws)[i]? = some sl → (wipeE ρ ws)[i]? = some sl := fun {i sl} h q => by
    rw [backE_at h] at q; rw [wipeE_at h]; exact q
  have ows : ∀ {i : Nat} {e : D}, (backE ρ0 ρ ws)[i]? = some (Sl.ow e) → i ∉ ws := fun {i e} q h => by
    have q2 := backE_in h q
    have q3 := List.all_eq_true.mp n i h
    rw [← q2] at q3; simp at q3
  refine ⟨⟨?_, fun i d q => ?_, fun i d q => ?_, fun i j d e hij q1 q2 => ?_, fun a y => s.yz a (.inl y), s.zl, fun i hi => s0.pin i hi⟩, fun i e q a ha => ?_⟩
  · have := s.len; rw [wipeE_len, wipe_length] at this; rw [backE_len]; exact this
  · by_cases h : i ∈ ws
    · have q2 := backE_in h q
      obtain ⟨v, hv, r⟩ := s0.fz i d (getD_some q2.symm (by simp))
      exact ⟨v, hv, R.step st.st r⟩
    · obtain ⟨v, hv, r⟩ := s.fz i d (out h q)
      exact ⟨v, by rw [wipe_at h] at hv; exact hv, r⟩
  · have h := ows q
    obtain ⟨v, hv, o, hz⟩ := s.ow i d (out h q)
    exact ⟨v, by rw [wipe_at h] at hv; exact hv, o, fun a ha => ⟨(hz a ha).1, fun y => (hz a ha).2 (.inl y)⟩⟩
  · exact s.dj i j d e hij (out (ows q1) q1) (out (ows q2) q2)
  · obtain ⟨v, hv, o, hz⟩ := s.ow i e (out (ows q) q)
    exact fun e => (hz a ha).2 (.inr e)
/-- the list of the turns is written -/
theorem SR.writeD (s : SR T (F.blk ws Dl) g ρ σ H) {o o' : HO} (hz : g.Z Dl) (hy : ¬ F.Y Dl) (h : H Dl = some o) (n1 : ∀ ps, o ≠ .tbl ps) (n2 : ∀ b u, o ≠ .frz b u) : Stp F g H g (upd H Dl o') ∧ SR T (F.blk ws Dl) g ρ σ (upd H Dl o') ∧ Step H g.Z (upd H Dl o') g.Z := by
  have st : Step H g.Z (upd H Dl o') g.Z := by
    refine ⟨fun b u e nz _ => ?_, fun b z => .inl z, fun b u e => ?_, fun b ps e => ?_, fun b u xs e => ?_, fun b u _ e nz => by unfold Rd at e ⊢; rw [upd_ne fun e2 => nz (by rw [e2]; exact hz)]; exact e⟩
    · rw [upd_ne fun e2 => nz (by rw [e2]; exact hz)]; exact e
    · by_cases hb : b = Dl
      · subst hb; exact ⟨_, upd_same⟩
      · exact ⟨u, by rw [upd_ne hb]; exact e⟩
    · refine ⟨ps, ?_⟩
      rw [upd_ne fun e2 => by subst e2; rw [h] at e; cases e; exact n1 _ rfl]; exact e
    · rw [upd_ne fun e2 => by subst e2; rw [h] at e; cases e; exact n2 _ _ rfl]; exact e
  refine ⟨⟨st, fun a y => upd_ne fun e => hy (by rw [← e]; exact y)⟩, ⟨s.len, fun i d q => ?_, fun i d q => ?_, s.dj, s.yz, fun a z => ?_, s.pin⟩, st⟩
  · obtain ⟨v, hv, r⟩ := s.fz i d q
    exact ⟨v, hv, R.step st r⟩
  · obtain ⟨v, hv, o2, hz2⟩ := s.ow i d q
    exact ⟨v, hv, o2.step st (fun a ha => upd_ne fun e => (hz2 a ha).2 (.inr e)), hz2⟩
  · by_cases hb : a = Dl
    · subst hb; rw [upd_same]; simp
    · rw [upd_ne hb]; exact s.zl a z
end
def lcGo (ws : List Nat) (set : GT) (cond : EB) (elt : EE) : List D → List Sl → List D → Res (List D)
  | [], ρ, acc => .ok acc ρ
  | d :: r, ρ, acc => match set d (wipeE ρ ws) with
    | none => .no
    | some ρ1 => match cond ρ1 with
      | .ok true ρ2 => (match elt ρ2 with
        | .ok y ρ3 => lcGo ws set cond elt r ρ3 (acc ++ [y])
        | _ => .no)
      | .ok false ρ2 => lcGo ws set cond elt r ρ2 acc
      | _ => .no
def eLc (ws : List Nat) (it : EI) (set : GT) (cond : EB) (elt : EE) : EE := fun ρ => (it ρ).bind fun ds ρ0 => if noOw ρ0 ws then (match lcGo ws set cond elt ds ρ0 [] with
  | .ok ys ρ1 => if ys.length ≤ LIM then .ok (.lst ys) (backE ρ0 ρ1 ws) else .no
  | _ => .no) else .no
def bYes : EB := fun ρ => .ok true ρ
theorem lcGo_len {ws : List Nat} {set : GT} {cond : EB} {elt : EE} : ∀ {ds : List D} {ρ : List Sl} {acc ys : List D} {ρ' : List Sl}, lcGo ws set cond elt ds ρ acc = .ok ys ρ' → acc.length ≤ ys.length
  | [], ρ, acc, ys, ρ', h => by cases h; exact Nat.le_refl _
  | d :: r, ρ, acc, ys, ρ', h => by
    simp only [lcGo] at h
    split at h
    · cases h
    · split at h
      · split at h
        · have := lcGo_len h
          rw [List.length_append] at this
          exact Nat.le_trans (Nat.le_add_right _ _) this
        · cases h
      · exact lcGo_len h
      · cases h
section
variable {T : Tx} {F : Fm} {W : WX'} {X : Cx} {tg iter elt : Expr} {ifs : List Expr} {scope : Scope} {own : List (Str × Nat)} {pos : Pos} {set : GT} {ti : EI} {tc : EB} {te : EE} {tv : List Nat}
def STs (T : Tx) (F : Fm) (W : WX') (X : Cx) (ifs : List Expr) (t : EB) : Prop := PTs X ifs (den T F W rB t)
theorem ts_nil : STs T F W X [] bYes := ⟨fun pins s σ H Q I q => pts_nil.run pins s σ H Q I (by
  obtain ⟨g, ρ, s, p⟩ := q
  exact p true g H .refl s rfl)⟩
theorem ts_one {c : Expr} {t : EB} (h : ST T F W X c t) : STs T F W X [c] t := pts_one h
def noW : WX' := fun _ _ _ _ => False
/-- the turns of a comprehension, over the reading tLc -/
theorem lc_den {ws : List Nat} (hv : ∀ j, j ∈ tv → j ∈ ws) {σ : St} {H : Hp} {Q : VK} (q : den T F W (rF T F) (eLc ws ti set tc te) σ H Q) :
    tLc (den T F W (rIt T F) ti) (fun v σ H Q => ∃ D, denG T (F.blk ws D) tv set v σ H Q) (fun σ H Q => ∃ D, den T (F.blk ws D) noW rB tc σ H Q) (fun σ H Q => ∃ D, den T (F.blk ws D) noW (rV T) te σ H Q) ws σ H Q := by
  refine den.bind q fun ds ρ0 g0 H0 g1 H1 J s1 e1 r1 p1 => ?_
  intro Dl hD
  split at p1
  · rename_i hno
    split at p1
    · rename_i ys ρf hres
      split at p1
      · rename_i hlen
        obtain ⟨a1, a2, a3, a4⟩ := e1.more (fp := [Dl]) (.alloc (o := .lst []) hD) (fun a ha => by cases List.mem_singleton.mp ha; exact ⟨hD, _, upd_same⟩)
        have hzD := (a3 Dl (by simp)).1
        have hyD := (a3 Dl (by simp)).2
        let P : Nat → Hp → Prop := fun i H => ∃ g ρ accV acc, Stp F g1 H1 g H ∧ SR T (F.blk ws Dl) g (wipeE ρ ws) (wipe σ ws) H ∧ g.Z Dl ∧ H Dl = some (.lst accV) ∧ RA T H g.Z accV acc ∧ lcGo ws set tc te (ds.drop i) ρ acc = .ok ys ρf
        have p0 : P 0 (upd H1 Dl (.lst [])) := ⟨g1.more [Dl], ρ0, [], [], a1, (a2.toBlk hzD fun i e q a ha e2 => a4 i e q a ha (by simp [e2])).wipeB, hzD, upd_same, .nil, hres⟩
        refine ⟨fun i m H => m = ds.length - i ∧ i ≤ ds.length ∧ P i H, ⟨ds.length, rfl, Nat.zero_le _, p0⟩, ?_⟩
        rintro i m H ⟨rfl, hi, g, ρ, accV, acc, st, e, hz, hH, ra, hgo⟩
        rcases Nat.lt_or_ge i ds.length with hl | hl
        · right
          refine ⟨r1.1 g H i st hl, P (i + 1), fun H' h => ⟨ds.length - (i + 1), by omega, rfl, hl, h⟩, fun x H' hy => ?_⟩
          obtain ⟨d, hd, gr, r⟩ := r1.2.2 g H i x H' st e.zl hl hy
          have hdr : ds.drop i = d :: ds.drop (i + 1) := by
            rw [List.drop_eq_getElem_cons hl]
            rw [List.getElem?_eq_getElem hl] at hd
            cases hd; rfl
          rw [hdr] at hgo
          simp only [lcGo] at hgo
          have e' := e.gr gr
          have st' : Stp F g1 H1 g H' := st.trans (Stp.gr gr e).ofBlk
          have ra' : RA T H' g.Z accV acc := RA.step gr.step ra
          cases hset : set d (wipeE ρ ws) with
          | none => rw [hset] at hgo; cases hgo
          | some ρ1 =>
            rw [hset] at hgo
            refine ⟨Dl, g, _, d, ρ1, e', r, hset, fun σ2 e2 k2 => ?_⟩
            have hw : wipe σ2 ws = wipe σ ws := by
              rw [← wipe_wipe σ ws]
              exact wipe_eq k2.1 fun j hj => k2.2 j fun h => hj (hv j h)
            refine ⟨hw, Dl, g, ρ1, e2, ?_⟩
            simp only at hgo
            cases hc : tc ρ1 with
            | ex => rw [hc] at hgo; cases hgo
            | no => rw [hc] at hgo; cases hgo
            | ok b ρ2 =>
              rw [hc] at hgo
              intro b' g3 H3 s3 e3 hb
              cases hb
              have hz3 : H3 Dl = some (.lst accV) := (s3.pr Dl (.inr rfl)).trans (gr _ _ hH)
              have st3 := st'.trans s3.ofBlk
              have ra3 : RA T H3 g3.Z accV acc := RA.step s3.st ra'
              have hzz3 : g3.Z Dl := e3.yz Dl (.inr rfl)
              cases b with
              | false =>
                simp only at hgo
                refine ⟨g3, ρ2, accV, acc, st3, ?_, hzz3, hz3, ra3, hgo⟩
                have := e3.wipeB; rw [hw] at this; exact this
              | true =>
                simp only at hgo
                rw [if_pos rfl]
                refine ⟨Dl, g3, ρ2, e3, ?_⟩
                cases he : te ρ2 with
                | ex => rw [he] at hgo; cases hgo
                | no => rw [he] at hgo; cases hgo
                | ok y ρ3 =>
                  rw [he] at hgo
                  simp only at hgo
                  intro v g4 H4 s4 e4 rv
                  have hz4 : H4 Dl = some (.lst accV) := (s4.pr Dl (.inr rfl)).trans hz3
                  have st4 := st3.trans s4.ofBlk
                  have ra4 : RA T H4 g4.Z accV acc := RA.step s4.st ra3
                  have hzz4 : g4.Z Dl := e4.yz Dl (.inr rfl)
                  obtain ⟨w1, w2, w3⟩ := e4.writeD (o' := .lst (accV ++ [v])) hzz4 hyD hz4 (fun _ h => nomatch h) (fun _ _ h => nomatch h)
                  have hlen2 := lcGo_len hgo
                  rw [List.length_append] at hlen2
                  refine ⟨accV, hz4, ?_, g4, ρ3, accV ++ [v], acc ++ [y], st4.trans w1, ?_, hzz4, upd_same, (RA.step w3 ra4).app (.one (R.step w3 rv)), hgo⟩
                  · rw [ra4.len]
                    have h1 : acc.length + 1 ≤ LIM := Nat.le_trans hlen2 hlen
                    exact Nat.lt_of_lt_of_le (Nat.lt_of_succ_le h1) (by decide)
                  · have := w2.wipeB; rw [hw] at this; exact this
        · left
          have hin : i = ds.length := Nat.le_antisymm hi hl
          subst hin
          rw [List.drop_length] at hgo
          cases hgo
          obtain ⟨b1, b2⟩ := SR.ofBlk e1 st e hno
          refine ⟨r1.2.1 g H st, p1 _ g H st b1 ⟨[Dl], .lst hH ra, fun a ha => ?_, fun i e q a ha => ?_⟩⟩
          · cases List.mem_singleton.mp ha; exact ⟨hz, hyD⟩
          · simpa using b2 i e q a ha
      · exact p1.elim
    · exact p1.elim
  · exact p1.elim
theorem pe_any {X : Cx} {ι : Type} {e : Expr} {t : ι → TE} (h : ∀ i, PE X e (t i)) : PE X e (fun σ H Q => ∃ i, t i σ H Q) := ⟨fun pins s σ H Q I ⟨i, q⟩ => (h i).run pins s σ H Q I q⟩
theorem pts_any {X : Cx} {ι : Type} {e : List Expr} {t : ι → TT} (h : ∀ i, PTs X e (t i)) : PTs X e (fun σ H Q => ∃ i, t i σ H Q) := ⟨fun pins s σ H Q I ⟨i, q⟩ => (h i).run pins s σ H Q I q⟩
theorem pg_any {X : Cx} {ι : Type} {e : Expr} {t : ι → TG} (h : ∀ i, PG X e (t i)) : PG X e (fun v σ H Q => ∃ i, t i v σ H Q) := ⟨fun pins s σ H v u Q I r ⟨i, q⟩ => (h i).run pins s σ H v u Q I r q⟩
/-- what is asked of the parts of a comprehension -/
abbrev Blk (X : Cx) (scope : Scope) (P : Cx → Prop) : Prop := ∀ (s : Shared) (H : Hp) (C : Addr) (cl : List (Str × Addr)) (fp : List Addr), P (X.blk s H scope (compEnvC scope cl C X.env) fp)
theorem n_lc (own : List (Str × Nat)) (hc : X.calm = true) (hN : X.N.Nodup) (hi : SI T F W X tg iter ti) (ok : BlkOk X.N X.env.scope scope own) (hv : ∀ j, j ∈ tv → j ∈ own.map (·.2))
    (hg : ∀ D, Blk X scope fun Y => PG Y tg (denG T (F.blk (own.map (·.2)) D) tv set)) (ht : ∀ D, Blk X scope fun Y => STs T (F.blk (own.map (·.2)) D) noW Y ifs tc) (he : ∀ D, Blk X scope fun Y => SE T (F.blk (own.map (·.2)) D) noW Y elt te)
    (hs : ∀ x, foldedSetIterable iter X.env x = pure x := by intro _; rfl) : SN T F W X (.ListComp elt [⟨tg, iter, ifs, 0⟩] scope pos) (eLc (own.map (·.2)) ti set tc te) :=
  pe_imp (pe_lc hc hN hi ok (fun s H C cl fp => pg_any fun D => hg D s H C cl fp) (fun s H C cl fp => pts_any fun D => ht D s H C cl fp) (fun s H C cl fp => pe_any fun D => he D s H C cl fp) hs) fun σ H Q q => lc_den hv q
theorem freezeF {g : Gh} {σ : St} {H : Hp} {ρ : List Sl} {d : D} {v : V} (e1 : SR T F g ρ σ H) (r1 : rF T F d ρ g σ H v) (n : d.isOm = false) : ∃ g', Stp F g H g' H ∧ SR T F g' ρ σ H ∧ R T H g'.Z v d := by
  obtain ⟨fp, o, hz, hd⟩ := r1
  have st := (Stp.less (F := F) (g := g) (H := H) fp)
  refine ⟨g.less fp, st, ⟨e1.len, fun i d q => ?_, fun i d q => ?_, e1.dj, fun a y => ⟨e1.yz a y, fun q => (hz a q).2 y⟩, fun a z => e1.zl a z.1, e1.pin⟩, o.freeze st.st n fun a ha q => q.2 ha⟩
  · obtain ⟨v, hv, r⟩ := e1.fz i d q
    exact ⟨v, hv, R.step st.st r⟩
  · obtain ⟨v, hv, r, hz2⟩ := e1.ow i d q
    exact ⟨v, hv, r.step st.st (fun _ _ => rfl), fun a ha => ⟨⟨(hz2 a ha).1, hd i d q a ha⟩, (hz2 a ha).2⟩⟩
theorem sSet_noOm (pn : Nat → Bool) (i : Nat) (t : EE) : sSet pn i (D.noOm t) = fun ρ => (t ρ).thenS fun d ρ => if d.isOm then .no else if pn i then .no else .nx (ρ.set i (.fz d)) := by
  funext ρ
  unfold sSet D.noOm Res.bind Res.thenS
  cases t ρ with
  | ok d ρ1 => dsimp only; by_cases h : d.isOm = true <;> simp [h]
  | ex x ρ' => rfl
  | no => rfl
/-- a comprehension that is stored on its own line -/
theorem k_setLc {i : Nat} {y : Str} {py spos : Pos} (own : List (Str × Nat)) (hc : X.calm = true) (hN : X.N.Nodup) (hy : X.N[i]? = some y) (hyl : X.env.scope.names.lookup y = some .local)
    (hsw : swapsWith (.ListComp elt [⟨tg, iter, ifs, 0⟩] scope pos) (some (.Name y py)) spos.line X.env = pure true) (hi : SI T F W X tg iter ti) (ok : BlkOk X.N X.env.scope scope own) (hv : ∀ j, j ∈ tv → j ∈ own.map (·.2))
    (hg : ∀ D, Blk X scope fun Y => PG Y tg (denG T (F.blk (own.map (·.2)) D) tv set)) (ht : ∀ D, Blk X scope fun Y => STs T (F.blk (own.map (·.2)) D) noW Y ifs tc) (he : ∀ D, Blk X scope fun Y => SE T (F.blk (own.map (·.2)) D) noW Y elt te)
    (hs : ∀ x, foldedSetIterable iter X.env x = pure x := by intro _; rfl) : SS T F W X (.Assign [.Name y py] (.ListComp elt [⟨tg, iter, ifs, 0⟩] scope pos) spos) (sSet F.pn i (D.noOm (eLc (own.map (·.2)) ti set tc te))) := by
  refine ps_imp (ps_setLc hc hN hy hyl hsw hi ok (fun s H C cl fp => pg_any fun D => hg D s H C cl fp) (fun s H C cl fp => pts_any fun D => ht D s H C cl fp) (fun s H C cl fp => pe_any fun D => he D s H C cl fp) hs) fun En σ H q => ?_
  refine lc_den hv ?_
  rw [sSet_noOm] at q
  refine denS.bind q fun d ρ1 g0 H0 g1 H1 v s1 e1 r1 p1 => ?_
  split at p1
  · exact p1.elim
  · rename_i n
    split at p1
    · exact p1.elim
    · rename_i hp
      obtain ⟨g2, s2, e2, r2⟩ := freezeF e1 r1 (by simpa using n)
      exact p1 _ g2 H1 s2 (e2.setFz (by simpa using hp) r2)
theorem k_ownLc {i : Nat} {y : Str} {py spos : Pos} (own : List (Str × Nat)) (hc : X.calm = true) (hN : X.N.Nodup) (hy : X.N[i]? = some y) (hyl : X.env.scope.names.lookup y = some .local)
    (hsw : swapsWith (.ListComp elt [⟨tg, iter, ifs, 0⟩] scope pos) (some (.Name y py)) spos.line X.env = pure true) (hi : SI T F W X tg iter ti) (ok : BlkOk X.N X.env.scope scope own) (hv : ∀ j, j ∈ tv → j ∈ own.map (·.2))
    (hg : ∀ D, Blk X scope fun Y => PG Y tg (denG T (F.blk (own.map (·.2)) D) tv set)) (ht : ∀ D, Blk X scope fun Y => STs T (F.blk (own.map (·.2)) D) noW Y ifs tc) (he : ∀ D, Blk X scope fun Y => SE T (F.blk (own.map (·.2)) D) noW Y elt te)
    (hs : ∀ x, foldedSetIterable iter X.env x = pure x := by intro _; rfl) : SS T F W X (.Assign [.Name y py] (.ListComp elt [⟨tg, iter, ifs, 0⟩] scope pos) spos) (sOwn F.pn i (eLc (own.map (·.2)) ti set tc te)) := by
  refine ps_imp (ps_setLc hc hN hy hyl hsw hi ok (fun s H C cl fp => pg_any fun D => hg D s H C cl fp) (fun s H C cl fp => pts_any fun D => ht D s H C cl fp) (fun s H C cl fp => pe_any fun D => he D s H C cl fp) hs) fun En σ H q => ?_
  refine lc_den hv ?_
  refine denS.bind q fun d ρ1 g0 H0 g1 H1 v s1 e1 r1 p1 => ?_
  split at p1
  · exact p1.elim
  · rename_i hp
    obtain ⟨fp, o, hz, hd⟩ := r1
    exact p1 _ (g1.at i fp) H1 .at (e1.setOw (by simpa using hp) o hz hd)
end
end Lc
namespace Lc
open PySem L2

/-- a def: from the arguments' slots to what it tells, and the slots behind it -/
abbrev Fn := List Sl → Res Sl
inductive Ar | v (d : D) | s (i : Nat)
def Ar.is (j : Nat) : Ar → Bool
  | .s i => i == j
  | _ => false
def Sl.isOw : Sl → Bool
  | .ow _ => true
  | _ => false
def okAs (ρ : List Sl) : List Ar → Bool
  | [] => true
  | .v _ :: r => okAs ρ r
  | .s i :: r => (ρ.getD i .no).isOw && !(r.any (Ar.is i)) && okAs ρ r
def asOf (ρ : List Sl) (as : List Ar) : List Sl := as.map fun a => match a with
  | .v d => .fz d
  | .s i => ρ.getD i .no
def backA : List Ar → List Sl → List Sl → List Sl
  | .s i :: r, x :: xs, ρ => (backA r xs ρ).set i x
  | .v _ :: r, _ :: xs, ρ => backA r xs ρ
  | _, _, ρ => ρ
def callF (f : Fn) (as : List Ar) (ρ : List Sl) : Res Sl := if okAs ρ as then (match f (asOf ρ as) with
  | .ok r as' => .ok r (backA as as' ρ)
  | .ex x as' => .ex x (backA as as' ρ)
  | .no => .no) else .no
/-- the frame of a call: what the caller owns, but for what is passed -/
def FC (Y : Zs) : Fm := ⟨Y, fun _ => false, []⟩
def spF (T : Tx) (n : Nat) (f : Fn) : Sp := fun vs H Q E => vs.length = n ∧ ∃ Y, den T (FC Y) (fun cls d _ H => E cls d H) (rR T (FC Y)) f (vs.map some) H Q

section
variable {T : Tx} {F : Fm}
def rAr (T : Tx) (g : Gh) (σ : St) (H : Hp) : Ar → V → Prop
  | .v d, v => R T H g.Z v d
  | .s i, v => σ[i]? = some (some v)
inductive RAr (T : Tx) (g : Gh) (σ : St) (H : Hp) : List Ar → List V → Prop
  | nil : RAr T g σ H [] []
  | cons {a : Ar} {v : V} {as : List Ar} {vs : List V} : rAr T g σ H a v → RAr T g σ H as vs → RAr T g σ H (a :: as) (v :: vs)
theorem RAr.step {g g' : Gh} {σ : St} {H H' : Hp} (s : Step H g.Z H' g'.Z) : ∀ {as : List Ar} {vs : List V}, RAr T g σ H as vs → RAr T g' σ H' as vs
  | _, _, .nil => .nil
  | .v d :: _, _, .cons r t => .cons (show R T H' g'.Z _ d from R.step s r) (RAr.step s t)
  | .s i :: _, _, .cons r t => .cons r (RAr.step s t)
theorem RAr.len {g : Gh} {σ : St} {H : Hp} : ∀ {as : List Ar} {vs : List V}, RAr T g σ H as vs → as.length = vs.length
  | _, _, .nil => rfl
  | _, _, .cons _ t => congrArg (· + 1) t.len
theorem RAr.get {g : Gh} {σ : St} {H : Hp} : ∀ {as : List Ar} {vs : List V}, RAr T g σ H as vs → ∀ {k : Nat} {a : Ar}, as[k]? = some a → ∃ v, vs[k]? = some v ∧ rAr T g σ H a v
  | _, _, .nil, k, a, h => by simp at h
  | _, _, .cons r t, 0, a, h => by simp at h; subst h; exact ⟨_, rfl, r⟩
  | _, _, .cons r t, k + 1, a, h => by simpa using t.get (by simpa using h)
theorem RAr.app {g : Gh} {σ : St} {H : Hp} : ∀ {as bs : List Ar} {vs ws : List V}, RAr T g σ H as vs → RAr T g σ H bs ws → RAr T g σ H (as ++ bs) (vs ++ ws)
  | _, _, _, _, .nil, h => h
  | _, _, _, _, .cons r t, h => .cons r (t.app h)
def kOf (as : List Ar) (j : Nat) : Option Nat := as.findIdx? (Ar.is j)
theorem okAs_own {ρ : List Sl} : ∀ {as : List Ar}, okAs ρ as = true → ∀ {k i : Nat}, as[k]? = some (Ar.s i) → ∃ d, ρ[i]? = some (.ow d)
  | .v _ :: r, h, 0, i, e => by simp at e
  | .v _ :: r, h, k + 1, i, e => okAs_own (as := r) h (by simpa using e)
  | .s j :: r, h, 0, i, e => by
    simp at e; subst e
    simp only [okAs, Bool.and_eq_true] at h
    have h1 := h.1.1
    cases q : ρ.getD j .no with
    | ow d => exact ⟨d, getD_some q (by simp)⟩
    | fz d => rw [q] at h1; cases h1
    | no => rw [q] at h1; cases h1
  | .s j :: r, h, k + 1, i, e => by
    simp only [okAs, Bool.and_eq_true] at h
    exact okAs_own h.2 (by simpa using e)
theorem kOf_of {ρ : List Sl} : ∀ {as : List Ar}, okAs ρ as = true → ∀ {k j : Nat}, as[k]? = some (Ar.s j) → kOf as j = some k
  | .v _ :: r, h, 0, i, e => by simp at e
  | .v d :: r, h, k + 1, i, e => by
    have := kOf_of (as := r) h (by simpa using e)
    unfold kOf at this ⊢
    rw [List.findIdx?_cons]; simp [Ar.is, this]
  | .s j :: r, h, 0, i, e => by
    simp at e; subst e
    unfold kOf
    rw [List.findIdx?_cons]; simp [Ar.is]
  | .s j :: r, h, k + 1, i, e => by
    simp only [okAs, Bool.and_eq_true] at h
    have e2 : r[k]? = some (Ar.s i) := by simpa using e
    have := kOf_of h.2 e2
    have ne : j ≠ i := fun e => by
      subst e
      have : r.any (Ar.is j) = true := List.any_eq_true.mpr ⟨.s j, List.mem_of_getElem? e2, by simp [Ar.is]⟩
      simp [this] at h
    unfold kOf at this ⊢
    rw [List.findIdx?_cons]; simp [Ar.is, ne, this]
theorem kOf_at : ∀ {as : List Ar} {k j : Nat}, kOf as j = some k → as[k]? = some (Ar.s j)
  | a :: r, k, j, h => by
    unfold kOf at h
    rw [List.findIdx?_cons] at h
    by_cases q : Ar.is j a = true
    · rw [if_pos q] at h; cases h
      cases a with
      | v d => cases q
      | s i => simp [Ar.is] at q; subst q; rfl
    · rw [if_neg q] at h
      obtain ⟨k', h2, e⟩ := Option.map_eq_some_iff.mp h
      subst e
      simpa using kOf_at (as := r) (j := j) h2
theorem asOf_get {ρ : List Sl} {as : List Ar} {k : Nat} {s : Sl} (h : (asOf ρ as)[k]? = some s) : (∃ d, as[k]? = some (.v d) ∧ s = .fz d) ∨ ∃ i, as[k]? = some (Ar.s i) ∧ s = ρ.getD i .no := by
  unfold asOf at h
  rw [List.getElem?_map] at h
  obtain ⟨a, ha, h⟩ := Option.map_eq_some_iff.mp h
  cases a with
  | v d => exact .inl ⟨d, ha, h.symm⟩
  | s i => exact .inr ⟨i, ha, h.symm⟩
theorem backA_get {ρ : List Sl} : ∀ {as : List Ar} {xs : List Sl}, as.length = xs.length → ∀ {j : Nat} {sl : Sl}, (backA as xs ρ)[j]? = some sl → (∃ k : Nat, as[k]? = some (Ar.s j) ∧ xs[k]? = some sl) ∨ ((∀ (k : Nat), as[k]? ≠ some (Ar.s j)) ∧ ρ[j]? = some sl)
  | [], [], _, j, sl, h => .inr ⟨fun k => by simp, h⟩
  | .v d :: r, x :: xs, hl, j, sl, h => by
    rcases backA_get (as := r) (xs := xs) (by simpa using hl) h with ⟨k, e1, e2⟩ | ⟨e1, e2⟩
    · exact .inl ⟨k + 1, by simpa using e1, by simpa using e2⟩
    · refine .inr ⟨fun k => ?_, e2⟩
      cases k with
      | zero => simp
      | succ k => simpa using e1 k
  | .s i :: r, x :: xs, hl, j, sl, h => by
    simp only [backA] at h
    rw [List.getElem?_set] at h
    split at h
    · rename_i e; subst e
      split at h
      · cases h; exact .inl ⟨0, rfl, rfl⟩
      · cases h
    · rename_i ne
      rcases backA_get (as := r) (xs := xs) (by simpa using hl) h with ⟨k, e1, e2⟩ | ⟨e1, e2⟩
      · exact .inl ⟨k + 1, by simpa using e1, by simpa using e2⟩
      · refine .inr ⟨fun k => ?_, e2⟩
        cases k with
        | zero => simp [ne]
        | succ k => simpa using e1 k
theorem backA_len {ρ : List Sl} : ∀ (as : List Ar) (xs : List Sl), (backA as xs ρ).length = ρ.length
  | [], _ => rfl
  | .v _ :: r, x :: xs => backA_len r xs
  | .s i :: r, x :: xs => by simp [backA, backA_len r xs]
  | .v _ :: r, [] => rfl
  | .s i :: r, [] => rfl

variable {g : Gh} {σ : St} {H : Hp} {ρ : List Sl} {as : List Ar} {vs : List V}
/-- what a call keeps of the caller's -/
def YC (g : Gh) (as : List Ar) : Zs := fun a => g.Z a ∧ ∀ i, (kOf as i).isSome = true → a ∉ g.fp i
def GC (g : Gh) (as : List Ar) : Gh := ⟨g.Z, fun k => match as[k]? with
  | some (Ar.s i) => g.fp i
  | _ => []⟩
/-- into the call -/
theorem SR.into (s : SR T F g ρ σ H) (r : RAr T g σ H as vs) (ok : okAs ρ as = true) : SR T (FC (YC g as)) (GC g as) (asOf ρ as) (vs.map some) H where
  len := by simp [asOf, r.len]
  fz := fun k d q => by
    rcases asOf_get q with ⟨d', e, e2⟩ | ⟨i, e, e2⟩
    · cases e2
      obtain ⟨v, hv, rv⟩ := r.get e
      exact ⟨v, by simp [hv], rv⟩
    · obtain ⟨d', h⟩ := okAs_own ok e
      rw [List.getD_eq_getElem?_getD, h] at e2; cases e2
  ow := fun k d q => by
    rcases asOf_get q with ⟨d', e, e2⟩ | ⟨i, e, e2⟩
    · cases e2
    · obtain ⟨d', h⟩ := okAs_own ok e
      rw [List.getD_eq_getElem?_getD, h] at e2; cases e2
      obtain ⟨v, hv, rv⟩ := r.get e
      obtain ⟨w, hw, o, hz⟩ := s.ow i d h
      rw [show σ[i]? = some (some v) from rv] at hw; cases hw
      refine ⟨v, by simp [hv], ?_⟩
      simp only [GC, e]
      exact ⟨o, fun a ha => ⟨(hz a ha).1, fun y => y.2 i (by rw [kOf_of ok e]; rfl) ha⟩⟩
  dj := fun k l d e hkl q1 q2 => by
    rcases asOf_get q1 with ⟨d', e1, e2⟩ | ⟨i, e1, e2⟩
    · cases e2
    · rcases asOf_get q2 with ⟨d', f1, f2⟩ | ⟨j, f1, f2⟩
      · cases f2
      · simp only [GC, e1, f1]
        obtain ⟨d1, h1⟩ := okAs_own ok e1
        obtain ⟨d2, h2⟩ := okAs_own ok f1
        refine s.dj i j d1 d2 (fun e => ?_) h1 h2
        subst e
        have a1 := kOf_of ok e1
        have a2 := kOf_of ok f1
        rw [a1] at a2; cases a2; exact hkl rfl
  yz := fun a y => y.1
  zl := s.zl
  pin := fun i h => by cases h
def GB (g g' : Gh) (as : List Ar) : Gh := ⟨g'.Z, fun j => match kOf as j with
  | some k => g'.fp k
  | none => g.fp j⟩
/-- out of it -/
theorem SR.outof {g' : Gh} {H' : Hp} {as' : List Sl} (s : SR T F g ρ σ H) (r : RAr T g σ H as vs) (ok : okAs ρ as = true) (st : Stp (FC (YC g as)) (GC g as) H g' H') (s' : SR T (FC (YC g as)) g' as' (vs.map some) H') :
    Stp F g H (GB g g' as) H' ∧ SR T F (GB g g' as) (backA as as' ρ) σ H' ∧ (∀ a, F.Y a → YC g as a) ∧ ∀ (i : Nat) (e : D), (∀ (k : Nat), as[k]? ≠ some (Ar.s i)) → ρ[i]? = some (Sl.ow e) → ∀ a ∈ g.fp i, YC g as a := by
  have hY : ∀ a, F.Y a → YC g as a := fun a y => ⟨s.yz a y, fun i hi ha => by
    cases q : kOf as i with
    | none => rw [q] at hi; cases hi
    | some k =>
      obtain ⟨d, h⟩ := okAs_own ok (kOf_at q)
      obtain ⟨_, _, _, hz⟩ := s.ow i d h
      exact (hz a ha).2 y⟩
  have oth : ∀ (i : Nat) (e : D), (∀ (k : Nat), as[k]? ≠ some (Ar.s i)) → ρ[i]? = some (Sl.ow e) → ∀ a ∈ g.fp i, YC g as a := fun i e hn h a ha => by
    obtain ⟨_, _, _, hz⟩ := s.ow i e h
    refine ⟨(hz a ha).1, fun j hj => ?_⟩
    cases q : kOf as j with
    | none => rw [q] at hj; cases hj
    | some k =>
      obtain ⟨d, h2⟩ := okAs_own ok (kOf_at q)
      exact s.dj i j e d (fun e => hn k (by rw [kOf_at q, e])) h h2 a ha
  have hlen : as.length = as'.length := by have := s'.len; simp at this; rw [r.len, this]
  have none_ : ∀ {j : Nat}, (∀ (k : Nat), as[k]? ≠ some (Ar.s j)) → kOf as j = none := fun {j} h => by
    cases q : kOf as j with
    | none => rfl
    | some k => exact absurd (kOf_at q) (h k)
  have stZ : Step H g.Z H' (GB g g' as).Z := st.st
  refine ⟨⟨stZ, fun a y => st.pr a (hY a y)⟩, ⟨by rw [backA_len]; exact s.len, fun i d q => ?_, fun i d q => ?_, fun i j d e hij q1 q2 => ?_, fun a y => s'.yz a (hY a y), s'.zl, s.pin⟩, hY, oth⟩
  · rcases backA_get hlen q with ⟨k, e1, e2⟩ | ⟨e1, e2⟩
    · obtain ⟨v, hv, r1⟩ := s'.fz k d e2
      obtain ⟨w, hw, r2⟩ := r.get e1
      simp [hw] at hv; subst hv
      exact ⟨_, r2, r1⟩
    · obtain ⟨v, hv, r1⟩ := s.fz i d e2
      exact ⟨v, hv, R.step stZ r1⟩
  · rcases backA_get hlen q with ⟨k, e1, e2⟩ | ⟨e1, e2⟩
    · obtain ⟨v, hv, o, hz⟩ := s'.ow k d e2
      obtain ⟨w, hw, r2⟩ := r.get e1
      simp [hw] at hv; subst hv
      refine ⟨_, r2, ?_⟩
      simp only [GB, kOf_of ok e1]
      exact ⟨o, fun a ha => ⟨(hz a ha).1, fun y => (hz a ha).2 (hY a y)⟩⟩
    · obtain ⟨v, hv, o, hz⟩ := s.ow i d e2
      refine ⟨v, hv, ?_⟩
      have yc := oth i d e1 e2
      simp only [GB, none_ e1]
      exact ⟨o.step stZ (fun a ha => st.pr a (yc a ha)), fun a ha => ⟨s'.yz a (yc a ha), (hz a ha).2⟩⟩
  · rcases backA_get hlen q1 with ⟨k, e1, e2⟩ | ⟨e1, e2⟩
    · rcases backA_get hlen q2 with ⟨l, f1, f2⟩ | ⟨f1, f2⟩
      · simp only [GB, kOf_of ok e1, kOf_of ok f1]
        refine s'.dj k l d e (fun e => ?_) e2 f2
        subst e; rw [e1] at f1; cases f1; exact hij rfl
      · simp only [GB, kOf_of ok e1, none_ f1]
        obtain ⟨_, _, _, hz⟩ := s'.ow k d e2
        exact fun a ha hb => (hz a ha).2 (oth j e f1 f2 a hb)
    · rcases backA_get hlen q2 with ⟨l, f1, f2⟩ | ⟨f1, f2⟩
      · simp only [GB, kOf_of ok f1, none_ e1]
        obtain ⟨_, _, _, hz⟩ := s'.ow l e f2
        exact fun a ha hb => (hz a hb).2 (oth i d e1 e2 a ha)
      · simp only [GB, none_ e1, none_ f1]
        exact s.dj i j d e hij e2 f2
theorem rR.outof {g' : Gh} {H' : Hp} {as' : List Sl} {sl : Sl} {v : V} (s : SR T F g ρ σ H) (r : RAr T g σ H as vs) (ok : okAs ρ as = true) (st : Stp (FC (YC g as)) (GC g as) H g' H') (s' : SR T (FC (YC g as)) g' as' (vs.map some) H')
    (q : rR T (FC (YC g as)) sl as' g' (vs.map some) H' v) : rR T F sl (backA as as' ρ) (GB g g' as) σ H' v := by
  obtain ⟨_, _, hY, oth⟩ := SR.outof s r ok st s'
  have hlen : as.length = as'.length := by have := s'.len; simp at this; rw [r.len, this]
  cases sl with
  | fz d => exact q
  | no => exact q
  | ow d =>
    obtain ⟨fp, o, hz, hd⟩ := q
    refine ⟨fp, o, fun a ha => ⟨(hz a ha).1, fun y => (hz a ha).2 (hY a y)⟩, fun i e q2 a ha => ?_⟩
    rcases backA_get hlen q2 with ⟨k, e1, e2⟩ | ⟨e1, e2⟩
    · simp only [GB, kOf_of ok e1] at ha
      exact hd k e e2 a ha
    · have hn : kOf as i = none := by
        cases q : kOf as i with
        | none => rfl
        | some k => exact absurd (kOf_at q) (e1 k)
      simp only [GB, hn] at ha
      exact fun hb => (hz a hb).2 (oth i e e1 e2 a ha)
/-- the call, from the caller's side -/
theorem call_sp {W : WX'} {f : Fn} {n : Nat} {Q : VK} (s : SR T F g ρ σ H) (r : RAr T g σ H as vs) (hn : vs.length = n) (p : Po T F W (rR T F) (callF f as ρ) g σ H Q) : spF T n f vs H Q (fun cls d H => W cls d σ H) := by
  unfold callF at p
  split at p
  · rename_i ok
    refine ⟨hn, YC g as, GC g as, asOf ρ as, s.into r ok, ?_⟩
    split at p
    · rename_i sl as' e
      rw [e]
      intro v g' H' st s' q
      obtain ⟨a1, a2, _, _⟩ := SR.outof s r ok st s'
      exact p v _ H' a1 a2 (rR.outof s r ok st s' q)
    · rename_i x as' e
      rw [e]
      intro cls d g' H' st s' q
      obtain ⟨a1, a2, _, _⟩ := SR.outof s r ok st s'
      exact p cls d _ H' a1 a2 q
    · exact p.elim
  · exact p.elim
end

def maskE (pn : Nat → Bool) (n : Nat) (ρ : List Sl) : List Sl := (List.range n).map fun k => if pn k then ρ.getD k .no else .no
def fnE (pn : Nat → Bool) (n m : Nat) (body : ES) : Fn := fun as => if as.length = n then (match body (as ++ List.replicate m .no) with
  | .nx ρ => .ok (.fz .non) (maskE pn n ρ)
  | .rt s ρ => .ok s (maskE pn n ρ)
  | .ex x ρ => .ex x (maskE pn n ρ)
  | _ => .no) else .no
theorem maskE_get {pn : Nat → Bool} {n : Nat} {ρ : List Sl} {k : Nat} {s : Sl} (h : (maskE pn n ρ)[k]? = some s) (hs : s ≠ .no) : k < n ∧ pn k = true ∧ ρ[k]? = some s := by
  unfold maskE at h
  rw [List.getElem?_map] at h
  obtain ⟨j, hj, h2⟩ := Option.map_eq_some_iff.mp h
  clear h
  have hk : k < n ∧ j = k := by
    rw [List.getElem?_eq_some_iff] at hj
    obtain ⟨h1, h2⟩ := hj
    simp at h1 h2
    exact ⟨h1, h2.symm⟩
  obtain ⟨hk, rfl⟩ := hk
  split at h2
  · rename_i hp; exact ⟨hk, hp, getD_some h2 hs⟩
  · exact absurd h2.symm hs
theorem start_get {N : List Str} {vs : List V} {k : Nat} (h : k < vs.length) : (L2.start N vs)[k]? = (vs.map some)[k]? := by
  unfold L2.start
  rw [List.getElem?_append_left (by simpa using h)]
section
variable {T : Tx} {pn : Nat → Bool} {n m : Nat} {body : ES} {N : List Str} {vs : List V} {H : Hp} {Q : VK} {E : XK}
theorem fn_start (hN : N.length = n + m) (h : spF T n (fnE pn n m body) vs H Q E) : ∃ Y, denS T ⟨Y, fun k => decide (k < n) && pn k, L2.start N vs⟩ (fun cls d _ H => E cls d H) body { nx := fun _ H' => Q .non H', rt := Q } (L2.start N vs) H := by
  obtain ⟨hn, Y, g, as, s, p⟩ := h
  have hl : as.length = n := by have := s.len; simp at this; omega
  unfold fnE at p
  rw [if_pos hl] at p
  have hsl : (L2.start N vs).length = n + m := by simp [L2.start]; omega
  have inA : ∀ {k : Nat} {sl : Sl}, (as ++ List.replicate m Sl.no)[k]? = some sl → sl ≠ .no → k < n ∧ as[k]? = some sl := fun {k sl} q hs => by
    by_cases hk : k < as.length
    · rw [List.getElem?_append_left hk] at q; exact ⟨by omega, q⟩
    · rw [List.getElem?_append_right (by omega), List.getElem?_replicate] at q
      split at q
      · cases q; exact absurd rfl hs
      · cases q
  have s0 : SR T ⟨Y, fun k => decide (k < n) && pn k, L2.start N vs⟩ g (as ++ List.replicate m Sl.no) (L2.start N vs) H := by
    refine ⟨by rw [hsl]; simp [hl], fun k d q => ?_, fun k d q => ?_, fun i j d e hij q1 q2 => ?_, s.yz, s.zl, fun i _ => rfl⟩
    · obtain ⟨hk, q⟩ := inA q (by simp)
      rw [start_get (by omega)]; exact s.fz k d q
    · obtain ⟨hk, q⟩ := inA q (by simp)
      rw [start_get (by omega)]; exact s.ow k d q
    · exact s.dj i j d e hij (inA q1 (by simp)).2 (inA q2 (by simp)).2
  have back : ∀ {g' : Gh} {ρ' : List Sl} {σ' : St} {H' : Hp}, SR T ⟨Y, fun k => decide (k < n) && pn k, L2.start N vs⟩ g' ρ' σ' H' → SR T (FC Y) g' (maskE pn n ρ') (vs.map some) H' := by
    intro g' ρ' σ' H' e
    have at_ : ∀ {k : Nat}, k < n → pn k = true → σ'[k]? = (vs.map some)[k]? := fun {k} h1 h2 => by
      have h3 := e.pin k (show (decide (k < n) && pn k) = true by simp [h1, h2])
      simp only at h3
      rw [h3, start_get (by omega)]
    refine ⟨by simp [maskE, hn], fun k d q => ?_, fun k d q => ?_, fun i j d f hij q1 q2 => ?_, e.yz, e.zl, fun i h => by cases h⟩
    · obtain ⟨h1, h2, q⟩ := maskE_get q (by simp)
      rw [← at_ h1 h2]; exact e.fz k d q
    · obtain ⟨h1, h2, q⟩ := maskE_get q (by simp)
      rw [← at_ h1 h2]; exact e.ow k d q
    · exact e.dj i j d f hij (maskE_get q1 (by simp)).2.2 (maskE_get q2 (by simp)).2.2
  refine ⟨Y, g, _, s0, ?_⟩
  cases q : body (as ++ List.replicate m Sl.no) with
  | nx ρ' => simp only [q] at p; exact fun σ' g' H' s' e' => p .non g' H' ⟨s'.st, s'.pr⟩ (back e') .non
  | rt sl ρ' =>
    simp only [q] at p
    intro σ' g' H' v s' e' r
    refine p v g' H' ⟨s'.st, s'.pr⟩ (back e') ?_
    cases sl with
    | fz d => exact r
    | no => exact r
    | ow d =>
      obtain ⟨fp, o, hz, hd⟩ := r
      exact ⟨fp, o, hz, fun i e q a ha => hd i e (maskE_get q (by simp)).2.2 a ha⟩
  | bk ρ' => simp only [q] at p; exact p.elim
  | ct ρ' => simp only [q] at p; exact p.elim
  | ex x ρ' => simp only [q] at p; exact fun σ' cls d g' H' s' e' r => p cls d g' H' ⟨s'.st, s'.pr⟩ (back e') r
  | no => simp only [q] at p; exact p.elim
end
end Lc
namespace Lc
open PySem L2

section
variable {X : Cx} {CX : CXT} {k n : Nat} {f C : Addr} {fd : FuncData} {ps ks : List Str} {sp : Sp} {E : St → XK} {x m : Str} {p pos apos : Pos} {e o : Expr} {es : List Expr} {kws : List Keyword} {t tk : TA} {ta : TE}
variable {gv : List Value → List Value → List Value} {gV : List V → List V → List V}
/-- a call that is bound so -/
theorem run_any {pins : List (Addr × Obj)} {σ : St} {H : Hp} {s : Shared} {Q : VK} {us ws : List Value} {vs zs : List V} (G : FnOk X.prog X.w X.K X.mg X.base CX k f fd ps sp) (room : Room k X.A)
    (bd : KBn X.K fd ps n ks gv gV) (pa : PassesAt CX X σ (E σ)) (I : Inv X pins σ H s) (r : Vals vs us) (rz : Vals zs ws) (l1 : vs.length = n) (l2 : zs.length = ks.length) (q : sp (gV vs zs) H Q (E σ)) :
    wpAny (model X.prog X.w) X.A (call (.ref f) us (ks.zip ws)) (EP X pins σ Q) X.xe s := by
  have hbt := bd.to s us ws I.kIn (by rw [← r.length]; exact l1) (by rw [← rz.length]; exact l2)
  have main := G.run X.A X.stack s H ⟨us, ks.zip ws⟩ (gv us ws) (gV vs zs) Q (E σ) room I.env0 hbt (bd.rel r rz) q
  refine wpAny_call (codeAny_mono main fun res s' hq => ?_)
  cases res with
  | error e => exact pa pins H s e s' I hq
  | ok fl => cases fl with
    | ret u => exact I.after hq
    | next => exact hq.elim
    | brk => exact hq.elim
    | cont => exact hq.elim
def tCl (n m : Nat) (sp : Sp) (gV : List V → List V → List V) (E : St → XK) (t tk : TA) : TE := fun σ H Q => t σ H fun vs H1 => tk σ H1 fun zs H2 => (vs.length = n ∧ zs.length = m) ∧ sp (gV vs zs) H2 Q (E σ)
theorem pe_cl0 (G : FnOk X.prog X.w X.K X.mg X.base CX k f fd ps sp) (room : Room k X.A) (gl : Gl X x) (hm : X.mg x = some (.ref f)) (kp : PySem.W.keepIn X.K (.ref f) = true) (bd : KBn X.K fd ps 0 ks gv gV) (pa : ∀ σ, PassesAt CX X σ (E σ)) (hkw : PK X kws tk)
    (hall : (backToKw pos (keywordEach kws X.env)).all (fun z => z.1.isSome) = true := by rfl) (hks : (backToKw pos (keywordEach kws X.env)).filterMap (fun z => z.1) = ks := by rfl)
    (hpl : ((backTo pos (starEach [] X.env)).any (fun z => z.1) || (backToKw pos (keywordEach kws X.env)).any (fun z => z.1.isNone)) = false := by rfl) (hdb : (x == ("__debug__" : Str)) = false := by decide) :
    PE X (.Call (.Name x p) [] kws pos) (tCl 0 ks.length sp gV E tNil tk) := by
  refine ⟨fun pins s σ H Q I h => wpAny_Call_Name_kw (ld_glob I gl hm ?_ hdb)⟩
  refine PySem.W.callWith_KW0 (h₀ := X.base) I.ok.mod.kin kp hall (thn (hkw.run pos pins s σ H _ I h) ?_) hpl
  rintro ws s2 ⟨zs, H2, I2, rz, ⟨l1, l2⟩, q⟩
  refine ⟨I2.kIn, ?_⟩
  rw [hks]
  exact run_any (us := []) (vs := []) G room bd (pa σ) I2 .nil rz rfl l2 q
theorem pe_cl (G : FnOk X.prog X.w X.K X.mg X.base CX k f fd ps sp) (room : Room k X.A) (gl : Gl X x) (hm : X.mg x = some (.ref f)) (kp : PySem.W.keepIn X.K (.ref f) = true) (bd : KBn X.K fd ps n ks gv gV) (pa : ∀ σ, PassesAt CX X σ (E σ)) (ha : PA X (e :: es) t) (hkw : PK X kws tk)
    (hall : (backToKw pos (keywordEach kws X.env)).all (fun z => z.1.isSome) = true := by rfl) (hks : (backToKw pos (keywordEach kws X.env)).filterMap (fun z => z.1) = ks := by rfl)
    (hpl : ((backTo pos (starEach (e :: es) X.env)).any (fun z => z.1) || (backToKw pos (keywordEach kws X.env)).any (fun z => z.1.isNone)) = false := by rfl)
    (he : starEach (e :: es) X.env = (false, eval e X.env) :: starEach es X.env := by rfl) (hdb : (x == ("__debug__" : Str)) = false := by decide) :
    PE X (.Call (.Name x p) (e :: es) kws pos) (tCl n ks.length sp gV E t tk) := by
  refine ⟨fun pins s σ H Q I h => wpAny_Call_Name_kw (ld_glob I gl hm ?_ hdb)⟩
  refine PySem.W.callWith_KW (h₀ := X.base) I.ok.mod.kin kp hall (thn (ha.run pos pins s σ H _ I h) ?_) hpl he
  rintro us s1 ⟨vs, H1, I1, r, h1⟩
  refine thn (hkw.run pos pins s1 σ H1 _ I1 h1) ?_
  rintro ws s2 ⟨zs, H2, I2, rz, ⟨l1, l2⟩, q⟩
  refine ⟨I2.kIn, ?_⟩
  rw [hks]
  exact run_any G room bd (pa σ) I2 r rz l1 l2 q
/-- a method of an instance -/
def tMt (C : Addr) (m : Str) (n nk : Nat) (sp : Sp) (gV : List V → List V → List V) (E : St → XK) (ta : TE) (t tk : TA) : TE := fun σ H Q => ta σ H fun x H0 => ∃ a dx fs, x = .ref a ∧ H0 a = some (.ins C dx fs) ∧ fs.lookup m = none ∧
  t σ H0 fun vs H1 => tk σ H1 fun zs H2 => (vs.length = n ∧ zs.length = nk) ∧ sp (gV (x :: vs) zs) H2 Q (E σ)
theorem pe_mt0 {pl : Sem Bool} (ho : PE X o ta) (c : Cls X.K C) (mt : Meth X.K C m f) (G : FnOk X.prog X.w X.K X.mg X.base CX k f fd ps sp) (room : Room k X.A) (bd : KBn X.K fd ps 1 ks gv gV) (pa : ∀ σ, PassesAt CX X σ (E σ)) (hkw : PK X kws tk)
    (hall : (backToKw pos (keywordEach kws X.env)).all (fun z => z.1.isSome) = true := by rfl) (hks : (backToKw pos (keywordEach kws X.env)).filterMap (fun z => z.1) = ks := by rfl)
    (hpl : ((backTo pos (starEach [] X.env)).any (fun z => z.1) || (backToKw pos (keywordEach kws X.env)).any (fun z => z.1.isNone)) = false := by rfl)
    (ht : eval (.Call (.Attribute o m apos) [] kws pos) X.env = (do
      let w ← eval o X.env
      standAt apos.atName
      let (f, first) ← holding [w] (getMethod w m pl)
      callWith pos f first (backTo pos (starEach [] X.env)) (backToKw pos (keywordEach kws X.env))) := by rfl) :
    PE X (.Call (.Attribute o m apos) [] kws pos) (tMt C m 0 ks.length sp gV E ta tNil tk) := by
  refine ⟨fun pins s σ H Q I h => PySem.W.methodCall_KW (pl := pl) (thn (ho.run pins s σ H _ I h) ?_) ht⟩
  rintro u s1 ⟨x, H1, I1, rx, a, dx, fs, rfl, ea, l, q⟩
  obtain rfl : u = Value.ref a := rx
  refine getmeth_ok I1 ea c mt l ?_
  refine PySem.W.callWith_KW0 (first := [.ref a]) (h₀ := X.base) I.ok.mod.kin mt.kp hall (thn (hkw.run pos pins s1 σ H1 _ I1 q) ?_) hpl
  rintro ws s2 ⟨zs, H2, I2, rz, ⟨l1, l2⟩, q⟩
  refine ⟨I2.kIn, ?_⟩
  rw [hks]
  exact run_any (us := [.ref a]) (vs := [.ref a]) G room bd (pa σ) I2 (.cons rfl .nil) rz rfl l2 q
theorem pe_mt {pl : Sem Bool} (ho : PE X o ta) (c : Cls X.K C) (mt : Meth X.K C m f) (G : FnOk X.prog X.w X.K X.mg X.base CX k f fd ps sp) (room : Room k X.A) (bd : KBn X.K fd ps (n + 1) ks gv gV) (pa : ∀ σ, PassesAt CX X σ (E σ)) (ha : PA X (e :: es) t) (hkw : PK X kws tk)
    (hall : (backToKw pos (keywordEach kws X.env)).all (fun z => z.1.isSome) = true := by rfl) (hks : (backToKw pos (keywordEach kws X.env)).filterMap (fun z => z.1) = ks := by rfl)
    (hpl : ((backTo pos (starEach (e :: es) X.env)).any (fun z => z.1) || (backToKw pos (keywordEach kws X.env)).any (fun z => z.1.isNone)) = false := by rfl)
    (he : starEach (e :: es) X.env = (false, eval e X.env) :: starEach es X.env := by rfl)
    (ht : eval (.Call (.Attribute o m apos) (e :: es) kws pos) X.env = (do
      let w ← eval o X.env
      standAt apos.atName
      let (f, first) ← holding [w] (getMethod w m pl)
      callWith pos f first (backTo pos (starEach (e :: es) X.env)) (backToKw pos (keywordEach kws X.env))) := by rfl) :
    PE X (.Call (.Attribute o m apos) (e :: es) kws pos) (tMt C m n ks.length sp gV E ta t tk) := by
  refine ⟨fun pins s σ H Q I h => PySem.W.methodCall_KW (pl := pl) (thn (ho.run pins s σ H _ I h) ?_) ht⟩
  rintro u s1 ⟨x, H1, I1, rx, a, dx, fs, rfl, ea, l, q⟩
  obtain rfl : u = Value.ref a := rx
  refine getmeth_ok I1 ea c mt l ?_
  refine PySem.W.callWith_KW (first := [.ref a]) (h₀ := X.base) I.ok.mod.kin mt.kp hall (thn (ha.run pos pins s1 σ H1 _ I1 q) ?_) hpl he
  rintro us s2 ⟨vs, H2, I2, r, h2⟩
  refine thn (hkw.run pos pins s2 σ H2 _ I2 h2) ?_
  rintro ws s3 ⟨zs, H3, I3, rz, ⟨l1, l2⟩, q⟩
  refine ⟨I3.kIn, ?_⟩
  rw [hks]
  exact run_any (us := .ref a :: us) (vs := .ref a :: vs) G room bd (pa σ) I3 (.cons rfl r) rz (congrArg (· + 1) l1) l2 q
/-- a new instance -/
def tMkx (C : Addr) (n nk : Nat) (sp : Sp) (gV : List V → List V → List V) (E : St → XK) (t tk : TA) : TE := fun σ H Q => t σ H fun vs H1 => tk σ H1 fun zs H2 => (vs.length = n ∧ zs.length = nk) ∧
  ∀ x dx, H2 x = none → H2 dx = none → dx ≠ x → sp (gV (.ref x :: vs) zs) (upd (upd H2 dx (.own x)) x (.ins C dx [])) (fun v H3 => v = .non ∧ Q (.ref x) H3) (E σ)
theorem run_mk {pins : List (Addr × Obj)} {σ : St} {H : Hp} {s : Shared} {Q : VK} {us ws : List Value} {vs zs : List V} (M : Mk X.K C f) (G : FnOk X.prog X.w X.K X.mg X.base CX k f fd ps sp) (room : Room (k + 1) X.A)
    (bd : KBn X.K fd ps (n + 1) ks gv gV) (pa : PassesAt CX X σ (E σ)) (I : Inv X pins σ H s) (r : Vals vs us) (rz : Vals zs ws) (l1 : vs.length = n) (l2 : zs.length = ks.length)
    (q : ∀ x dx, H x = none → H dx = none → dx ≠ x → sp (gV (.ref x :: vs) zs) (upd (upd H dx (.own x)) x (.ins C dx [])) (fun v H3 => v = .non ∧ Q (.ref x) H3) (E σ)) :
    wpAny (model X.prog X.w) X.A (call (.ref C) us (ks.zip ws)) (EP X pins σ Q) X.xe s := by
  have fr1 := I.hok.fresh (Nat.le_refl s.heap.objs.size)
  have fr2 := I.hok.fresh (Nat.le_succ s.heap.objs.size)
  have q1 := q (s.heap.objs.size + 1) s.heap.objs.size fr2 fr1 (Nat.ne_of_lt (Nat.lt_succ_self _))
  have J := Inv.made (C := C) I
  have rr : Vals (V.ref (s.heap.objs.size + 1) :: vs) (Value.ref (s.heap.objs.size + 1) :: us) := .cons rfl r
  have hbt := bd.to _ (Value.ref (s.heap.objs.size + 1) :: us) ws J.kIn (by rw [← rr.length, List.length_cons, l1]) (by rw [← rz.length]; exact l2)
  have main := G.run _ X.stack _ _ ⟨Value.ref (s.heap.objs.size + 1) :: us, ks.zip ws⟩ _ _ _ (E σ) (room.make C us (ks.zip ws)) (J.env0.make C us (ks.zip ws)) hbt (bd.rel rr rz) q1
  refine wpAny_call (make_map (f := f) I.kIn M.makes M.init (beq_iff_eq.mp M.fn) (codeAny_mono main fun res s' hq => ?_))
  cases res with
  | error e => exact pa pins _ _ e s' J hq
  | ok fl => cases fl with
    | ret u =>
      obtain ⟨v, H', I3, rv, rfl, q3⟩ := J.after hq
      exact ⟨rv, V.ref (s.heap.objs.size + 1), H', I3, rfl, q3⟩
    | next => exact hq.elim
    | brk => exact hq.elim
    | cont => exact hq.elim
theorem pe_mkx0 (M : Mk X.K C f) (G : FnOk X.prog X.w X.K X.mg X.base CX k f fd ps sp) (room : Room (k + 1) X.A) (gl : Gl X x) (hm : X.mg x = some (.ref C)) (bd : KBn X.K fd ps 1 ks gv gV) (pa : ∀ σ, PassesAt CX X σ (E σ)) (hkw : PK X kws tk)
    (hall : (backToKw pos (keywordEach kws X.env)).all (fun z => z.1.isSome) = true := by rfl) (hks : (backToKw pos (keywordEach kws X.env)).filterMap (fun z => z.1) = ks := by rfl)
    (hpl : ((backTo pos (starEach [] X.env)).any (fun z => z.1) || (backToKw pos (keywordEach kws X.env)).any (fun z => z.1.isNone)) = false := by rfl) (hdb : (x == ("__debug__" : Str)) = false := by decide) :
    PE X (.Call (.Name x p) [] kws pos) (tMkx C 0 ks.length sp gV E tNil tk) := by
  refine ⟨fun pins s σ H Q I h => wpAny_Call_Name_kw (ld_glob I gl hm ?_ hdb)⟩
  refine PySem.W.callWith_KW0 (h₀ := X.base) I.ok.mod.kin M.kp hall (thn (hkw.run pos pins s σ H _ I h) ?_) hpl
  rintro ws s2 ⟨zs, H2, I2, rz, ⟨l1, l2⟩, q⟩
  refine ⟨I2.kIn, ?_⟩
  rw [hks]
  exact run_mk (us := []) (vs := []) M G room bd (pa σ) I2 .nil rz rfl l2 q
theorem pe_mkx (M : Mk X.K C f) (G : FnOk X.prog X.w X.K X.mg X.base CX k f fd ps sp) (room : Room (k + 1) X.A) (gl : Gl X x) (hm : X.mg x = some (.ref C)) (bd : KBn X.K fd ps (n + 1) ks gv gV) (pa : ∀ σ, PassesAt CX X σ (E σ)) (ha : PA X (e :: es) t) (hkw : PK X kws tk)
    (hall : (backToKw pos (keywordEach kws X.env)).all (fun z => z.1.isSome) = true := by rfl) (hks : (backToKw pos (keywordEach kws X.env)).filterMap (fun z => z.1) = ks := by rfl)
    (hpl : ((backTo pos (starEach (e :: es) X.env)).any (fun z => z.1) || (backToKw pos (keywordEach kws X.env)).any (fun z => z.1.isNone)) = false := by rfl)
    (he : starEach (e :: es) X.env = (false, eval e X.env) :: starEach es X.env := by rfl) (hdb : (x == ("__debug__" : Str)) = false := by decide) :
    PE X (.Call (.Name x p) (e :: es) kws pos) (tMkx C n ks.length sp gV E t tk) := by
  refine ⟨fun pins s σ H Q I h => wpAny_Call_Name_kw (ld_glob I gl hm ?_ hdb)⟩
  refine PySem.W.callWith_KW (h₀ := X.base) I.ok.mod.kin M.kp hall (thn (ha.run pos pins s σ H _ I h) ?_) hpl he
  rintro us s1 ⟨vs, H1, I1, r, h1⟩
  refine thn (hkw.run pos pins s1 σ H1 _ I1 h1) ?_
  rintro ws s2 ⟨zs, H2, I2, rz, ⟨l1, l2⟩, q⟩
  refine ⟨I2.kIn, ?_⟩
  rw [hks]
  exact run_mk M G room bd (pa σ) I2 r rz l1 l2 q
end

abbrev EAr := List Sl → Res (List Ar)
abbrev ECl := List Sl → Res Sl
def rNil : EAr := fun ρ => .ok [] ρ
def rCons (t : EE) (r : EAr) : EAr := fun ρ => (t ρ).bind fun d ρ => (r ρ).bind fun as ρ => .ok (.v d :: as) ρ
/-- a slot's own thing is passed -/
def rOwn (i : Nat) (r : EAr) : EAr := fun ρ => match ρ.getD i .no with
  | .ow _ => (r ρ).bind fun as ρ => .ok (.s i :: as) ρ
  | _ => .no
def eCl (f : Fn) (n m : Nat) (gA : List Ar → List Ar → List Ar) (t tk : EAr) : ECl := fun ρ => (t ρ).bind fun as ρ => (tk ρ).bind fun bs ρ => if as.length = n ∧ bs.length = m then callF f (gA as bs) ρ else .no
def eFz (t : ECl) : EE := fun ρ => (t ρ).bind fun s ρ => match s with
  | .fz d => .ok d ρ
  | .ow d => if d.isOm then .no else .ok d ρ
  | .no => .no
def eOw (t : ECl) : EE := fun ρ => (t ρ).bind fun s ρ => match s with
  | .ow d => .ok d ρ
  | _ => .no
section
variable {T : Tx} {F : Fm} {W : WX'} {X : Cx} {CX : CXT} {k n : Nat} {f : Addr} {fn : Fn} {fd : FuncData} {ps ks : List Str} {x m : Str} {p pos apos : Pos} {e o : Expr} {es : List Expr} {kws : List Keyword}
variable {gv : List Value → List Value → List Value} {gV : List V → List V → List V} {gA : List Ar → List Ar → List Ar}
def rArs (T : Tx) (as : List Ar) (_ : List Sl) (g : Gh) (σ : St) (H : Hp) (vs : List V) : Prop := RAr T g σ H as vs
def SAr (T : Tx) (F : Fm) (W : WX') (X : Cx) (es : List Expr) (t : EAr) : Prop := PA X es (den T F W (rArs T) t)
def SKr (T : Tx) (F : Fm) (W : WX') (X : Cx) (kws : List Keyword) (t : EAr) : Prop := PK X kws (den T F W (rArs T) t)
def SC (T : Tx) (F : Fm) (W : WX') (X : Cx) (e : Expr) (t : ECl) : Prop := PE X e (den T F W (rR T F) t)
theorem pk_imp {X : Cx} {e : List Keyword} {t t' : TA} (h : PK X e t) (k : ∀ σ H Q, t' σ H Q → t σ H Q) : PK X e t' := ⟨fun pos pins s σ H Q I q => h.run pos pins s σ H Q I (k _ _ _ q)⟩
theorem r_nil : SAr T F W X [] rNil := pa_imp pa_nil fun σ H Q q => by
  obtain ⟨g, ρ, s, p⟩ := q
  exact p [] g H .refl s .nil
theorem r_cons {t : EE} {r : EAr} (h : SE T F W X e t) (hr : SAr T F W X es r) (hs : starEach (e :: es) X.env = (false, eval e X.env) :: starEach es X.env := by rfl) : SAr T F W X (e :: es) (rCons t r) := by
  refine pa_imp (pa_cons h hr hs) fun σ H Q q => den.bind q fun d ρ1 g0 H0 g1 H1 v s1 e1 r1 p1 => ?_
  refine ⟨g1, ρ1, e1, Po.bind p1 fun ds ρ2 g2 H2 vs s2 e2 r2 p2 => ?_⟩
  exact p2.ok e2 (.cons (show R T H2 g2.Z v d from R.step s2.st r1) r2)
theorem r_own {i : Nat} {r : EAr} (hN : X.N[i]? = some x) (hv : Vis X.env.scope x) (hr : SAr T F W X es r) (hs : starEach (.Name x p :: es) X.env = (false, eval (.Name x p) X.env) :: starEach es X.env := by rfl)
    (hd : (x == ("__debug__" : Str)) = false := by decide) (hcd : (x == ("__classdict__" : Str)) = false := by decide) : SAr T F W X (.Name x p :: es) (rOwn i r) := by
  refine pa_imp (pa_cons (pe_var hN hv hd hcd) hr hs) fun σ H Q q => ?_
  obtain ⟨g, ρ, s, q⟩ := q
  unfold rOwn at q
  split at q
  · rename_i d e1
    obtain ⟨v, hv, _⟩ := s.ow i d (getD_some e1 (by simp))
    refine ⟨v, hv, g, ρ, s, Po.bind q fun as ρ2 g2 H2 vs s2 e2 r2 p2 => p2.ok e2 (.cons (show σ[i]? = some (some v) from hv) r2)⟩
  · exact q.elim
theorem kr_nil : SKr T F W X [] rNil := pk_imp pk_nil fun σ H Q q => by
  obtain ⟨g, ρ, s, p⟩ := q
  exact p [] g H .refl s .nil
theorem kr_cons {t : EE} {r : EAr} {nm : Option Str} {kpos : Pos} (h : SE T F W X e t) (hr : SKr T F W X kws r) : SKr T F W X (⟨nm, e, kpos⟩ :: kws) (rCons t r) := by
  refine pk_imp (pk_cons h hr) fun σ H Q q => den.bind q fun d ρ1 g0 H0 g1 H1 v s1 e1 r1 p1 => ?_
  refine ⟨g1, ρ1, e1, Po.bind p1 fun ds ρ2 g2 H2 vs s2 e2 r2 p2 => ?_⟩
  exact p2.ok e2 (.cons (show R T H2 g2.Z v d from R.step s2.st r1) r2)
theorem kr_own {i : Nat} {r : EAr} {nm : Option Str} {kpos : Pos} (hN : X.N[i]? = some x) (hv : Vis X.env.scope x) (hr : SKr T F W X kws r)
    (hd : (x == ("__debug__" : Str)) = false := by decide) (hcd : (x == ("__classdict__" : Str)) = false := by decide) : SKr T F W X (⟨nm, .Name x p, kpos⟩ :: kws) (rOwn i r) := by
  refine pk_imp (pk_cons (pe_var hN hv hd hcd) hr) fun σ H Q q => ?_
  obtain ⟨g, ρ, s, q⟩ := q
  unfold rOwn at q
  split at q
  · rename_i d e1
    obtain ⟨v, hv, _⟩ := s.ow i d (getD_some e1 (by simp))
    refine ⟨v, hv, g, ρ, s, Po.bind q fun as ρ2 g2 H2 vs s2 e2 r2 p2 => p2.ok e2 (.cons (show σ[i]? = some (some v) from hv) r2)⟩
  · exact q.elim
/-- arguments in their order: as given, by name, by default -/
def GRel (T : Tx) (gA : List Ar → List Ar → List Ar) (gV : List V → List V → List V) (n m : Nat) : Prop := ∀ (g : Gh) (σ : St) (H : Hp) (as bs : List Ar) (vs zs : List V), as.length = n → bs.length = m → RAr T g σ H as vs → RAr T g σ H bs zs → RAr T g σ H (gA as bs) (gV vs zs)
theorem cl_den {σ : St} {H : Hp} {Q : VK} {t tk : EAr} {m' : Nat} (ga : GRel T gA gV n m') (hl : ∀ as bs, as.length = n → bs.length = m' → (gA as bs).length = ps.length) (q : den T F W (rR T F) (eCl fn n m' gA t tk) σ H Q) :
    den T F W (rArs T) t σ H fun vs H1 => den T F W (rArs T) tk σ H1 fun zs H2 => (vs.length = n ∧ zs.length = m') ∧ spF T ps.length fn (gV vs zs) H2 Q (fun cls d H => W cls d σ H) := by
  refine den.bind q fun as ρ1 g0 H0 g1 H1 vs s1 e1 r1 p1 => ?_
  refine ⟨g1, ρ1, e1, Po.bind p1 fun bs ρ2 g2 H2 zs s2 e2 r2 p2 => ?_⟩
  split at p2
  · rename_i hh
    have r1' := RAr.step (H' := H2) s2.st r1
    have rr := ga g2 σ H2 as bs vs zs hh.1 hh.2 r1' r2
    exact ⟨⟨by rw [← r1'.len]; exact hh.1, by rw [← RAr.len r2]; exact hh.2⟩, call_sp e2 rr (by rw [← rr.len]; exact hl as bs hh.1 hh.2) p2⟩
  · exact p2.elim
abbrev Pa (CX : CXT) (X : Cx) (W : WX') : Prop := ∀ σ, PassesAt CX X σ (fun cls d H => W cls d σ H)
theorem c_cl0 {tk : EAr} (G : FnOk X.prog X.w X.K X.mg X.base CX k f fd ps (spF T ps.length fn)) (room : Room k X.A) (gl : Gl X x) (hm : X.mg x = some (.ref f)) (kp : PySem.W.keepIn X.K (.ref f) = true) (bd : KBn X.K fd ps 0 ks gv gV) (pa : Pa CX X W)
    (ga : GRel T gA gV 0 ks.length) (hl : ∀ as bs, as.length = 0 → bs.length = ks.length → (gA as bs).length = ps.length) (hkw : SKr T F W X kws tk)
    (hall : (backToKw pos (keywordEach kws X.env)).all (fun z => z.1.isSome) = true := by rfl) (hks : (backToKw pos (keywordEach kws X.env)).filterMap (fun z => z.1) = ks := by rfl)
    (hpl : ((backTo pos (starEach [] X.env)).any (fun z => z.1) || (backToKw pos (keywordEach kws X.env)).any (fun z => z.1.isNone)) = false := by rfl) (hdb : (x == ("__debug__" : Str)) = false := by decide) :
    SC T F W X (.Call (.Name x p) [] kws pos) (eCl fn 0 ks.length gA rNil tk) :=
  pe_imp (pe_cl0 (E := fun σ cls d H => W cls d σ H) G room gl hm kp bd pa hkw hall hks hpl hdb) fun σ H Q q => by
    have := cl_den (ps := ps) ga hl q
    obtain ⟨g, ρ, s, h⟩ := this
    exact h [] g H .refl s .nil
theorem c_cl {t tk : EAr} (G : FnOk X.prog X.w X.K X.mg X.base CX k f fd ps (spF T ps.length fn)) (room : Room k X.A) (gl : Gl X x) (hm : X.mg x = some (.ref f)) (kp : PySem.W.keepIn X.K (.ref f) = true) (bd : KBn X.K fd ps n ks gv gV) (pa : Pa CX X W)
    (ga : GRel T gA gV n ks.length) (hl : ∀ as bs, as.length = n → bs.length = ks.length → (gA as bs).length = ps.length) (ha : SAr T F W X (e :: es) t) (hkw : SKr T F W X kws tk)
    (hall : (backToKw pos (keywordEach kws X.env)).all (fun z => z.1.isSome) = true := by rfl) (hks : (backToKw pos (keywordEach kws X.env)).filterMap (fun z => z.1) = ks := by rfl)
    (hpl : ((backTo pos (starEach (e :: es) X.env)).any (fun z => z.1) || (backToKw pos (keywordEach kws X.env)).any (fun z => z.1.isNone)) = false := by rfl)
    (he : starEach (e :: es) X.env = (false, eval e X.env) :: starEach es X.env := by rfl) (hdb : (x == ("__debug__" : Str)) = false := by decide) :
    SC T F W X (.Call (.Name x p) (e :: es) kws pos) (eCl fn n ks.length gA t tk) :=
  pe_imp (pe_cl (E := fun σ cls d H => W cls d σ H) G room gl hm kp bd pa ha hkw hall hks hpl he hdb) fun σ H Q q => cl_den ga hl q
/-- what a call tells, as a value -/
theorem s_cl {t : ECl} (h : SC T F W X e t) : SE T F W X e (eFz t) := by
  refine pe_imp h fun σ H Q q => den.bind q fun sl ρ1 g0 H0 g1 H1 v s1 e1 r1 p1 => ?_
  cases sl with
  | no => exact p1.elim
  | fz d => exact p1.ok e1 r1
  | ow d =>
    dsimp only at p1
    split at p1
    · exact p1.elim
    · rename_i n
      obtain ⟨g2, s2, e2, r2⟩ := freezeF e1 r1 (by simpa using n)
      exact p1 v g2 H1 s2 e2 r2
theorem n_cl {t : ECl} (h : SC T F W X e t) : SN T F W X e (eOw t) := by
  refine pe_imp h fun σ H Q q => den.bind q fun sl ρ1 g0 H0 g1 H1 v s1 e1 r1 p1 => ?_
  cases sl with
  | no => exact p1.elim
  | fz d => exact p1.elim
  | ow d => exact p1.ok e1 r1
end
end Lc
namespace Lc
open PySem L2

def Ar.get (a : Ar) (ρ : List Sl) : Option D := match a with
  | .v d => some d
  | .s i => (ρ.getD i .no).d?
abbrev EA1 := List Sl → Res Ar
def a1V (t : EE) : EA1 := fun ρ => (t ρ).bind fun d ρ => .ok (.v d) ρ
def a1S (i : Nat) : EA1 := fun ρ => match ρ.getD i .no with
  | .ow _ => .ok (.s i) ρ
  | _ => .no
/-- an instance of the class c without an own attribute m -/
def isInsOf (c : Nat) (m : Str) : Option D → Bool
  | some (.ins c' fs) => c' == c && (fs.lookup m).isNone
  | _ => false
def eMt (c : Nat) (m : Str) (f : Fn) (n nk : Nat) (gA : List Ar → List Ar → List Ar) (to : EA1) (t tk : EAr) : ECl := fun ρ => (to ρ).bind fun a ρ => if isInsOf c m (a.get ρ) then (t ρ).bind fun as ρ => (tk ρ).bind fun bs ρ =>
  if as.length = n ∧ bs.length = nk then callF f (gA (a :: as) bs) ρ else .no else .no
def mkEnd (n : Nat) (r : Res Sl) : Res D := match r with
  | .ok (.fz .non) ρ => (match ρ.getD n .no with
    | .ow d => .ok d (ρ.take n)
    | _ => .no)
  | .ex x ρ => .ex x (ρ.take n)
  | _ => .no
def eMk (c : Nat) (f : Fn) (n nk : Nat) (gA : List Ar → List Ar → List Ar) (t tk : EAr) : EE := fun ρ => (t ρ).bind fun as ρ => (tk ρ).bind fun bs ρ =>
  if as.length = n ∧ bs.length = nk then mkEnd ρ.length (callF f (gA (.s ρ.length :: as) bs) (ρ ++ [.ow (.ins c [])])) else .no
section
variable {T : Tx} {F : Fm} {g : Gh} {σ : St} {H : Hp} {ρ : List Sl}
theorem Ar.rv {a : Ar} {v : V} {d : D} (s : SR T F g ρ σ H) (r : rAr T g σ H a v) (e : a.get ρ = some d) : Rv T H g.Z v d := by
  cases a with
  | v d' => cases e; exact .inl r
  | s i => exact rO.rv (o := .s i) (ρ' := ρ) (show rO T (.s i) ρ g σ H v from r) s e
theorem RAr.ext {as : List Ar} {vs : List V} {w : V} (h : RAr T g σ H as vs) : RAr T g (σ ++ [some w]) H as vs := by
  induction h with
  | nil => exact .nil
  | cons r t ih =>
    rename_i a v as vs
    refine .cons ?_ ih
    cases a with
    | v d => exact r
    | s i =>
      have r : σ[i]? = some (some v) := r
      have hi : i < σ.length := (List.getElem?_eq_some_iff.mp r).1
      exact (List.getElem?_append_left hi).trans r
/-- one slot more -/
theorem SR.snoc {v : V} {d : D} {fp : List Addr} (s : SR T F g ρ σ H) (o : Own T H g.Z v d fp) (hz : ∀ a ∈ fp, g.Z a ∧ ¬ F.Y a) (hd : ∀ (j : Nat) (e : D), ρ[j]? = some (Sl.ow e) → ∀ a ∈ g.fp j, a ∉ fp) :
    SR T (FC F.Y) (g.at ρ.length fp) (ρ ++ [.ow d]) (σ ++ [some v]) H := by
  have split_ : ∀ {i : Nat} {sl : Sl}, (ρ ++ [Sl.ow d])[i]? = some sl → (i < ρ.length ∧ ρ[i]? = some sl) ∨ (i = ρ.length ∧ sl = .ow d) := fun {i sl} q => by
    by_cases h : i < ρ.length
    · rw [List.getElem?_append_left h] at q; exact .inl ⟨h, q⟩
    · rw [List.getElem?_append_right (by omega)] at q
      have : i - ρ.length = 0 := by
        by_cases h0 : i - ρ.length = 0
        · exact h0
        · rw [List.getElem?_eq_none (by simp; omega)] at q; cases q
      rw [this] at q
      cases q
      exact .inr ⟨by omega, rfl⟩
  refine ⟨by simp [s.len], fun i e q => ?_, fun i e q => ?_, fun i j e f hij q1 q2 => ?_, s.yz, s.zl, fun i h => by cases h⟩
  · rcases split_ q with ⟨h, q⟩ | ⟨_, e⟩
    · obtain ⟨w, hw, r⟩ := s.fz i e q
      exact ⟨w, by rw [List.getElem?_append_left (by rw [← s.len]; exact h)]; exact hw, r⟩
    · cases e
  · rcases split_ q with ⟨h, q⟩ | ⟨h, e⟩
    · obtain ⟨w, hw, r⟩ := s.ow i e q
      refine ⟨w, by rw [List.getElem?_append_left (by rw [← s.len]; exact h)]; exact hw, ?_⟩
      simp only [Gh.at, if_neg (Nat.ne_of_lt h)]
      exact r
    · cases e; subst h
      refine ⟨v, by rw [List.getElem?_append_right (by rw [s.len]; exact Nat.le_refl _), s.len]; simp, ?_⟩
      simp only [Gh.at, if_pos]
      exact ⟨o, hz⟩
  · rcases split_ q1 with ⟨h1, q1⟩ | ⟨h1, e1⟩
    · rcases split_ q2 with ⟨h2, q2⟩ | ⟨h2, e2⟩
      · simp only [Gh.at, if_neg (Nat.ne_of_lt h1), if_neg (Nat.ne_of_lt h2)]
        exact s.dj i j e f hij q1 q2
      · subst h2
        simp only [Gh.at, if_neg (Nat.ne_of_lt h1), if_pos]
        exact hd i e q1
    · rcases split_ q2 with ⟨h2, q2⟩ | ⟨h2, e2⟩
      · subst h1
        simp only [Gh.at, if_neg (Nat.ne_of_lt h2), if_pos]
        exact fun a ha hb => hd j f q2 a hb ha
      · exact absurd (h1.trans h2.symm) hij
theorem SR.unsnoc {ρ' : List Sl} {v : V} {Y : Zs} {g0 : Gh} {ρ0 : List Sl} {H0 : Hp} (s0 : SR T F g0 ρ0 σ H0) (s : SR T (FC F.Y) g ρ' (σ ++ [some v]) H) : SR T F g (ρ'.take σ.length) σ H := by
  have hl : ρ'.length = σ.length + 1 := by have := s.len; simpa using this
  have at_ : ∀ {i : Nat} {sl : Sl}, (ρ'.take σ.length)[i]? = some sl → i < σ.length ∧ ρ'[i]? = some sl := fun {i sl} q => by
    rw [List.getElem?_take] at q
    split at q
    · rename_i h; exact ⟨h, q⟩
    · cases q
  refine ⟨by simp [hl], fun i e q => ?_, fun i e q => ?_, fun i j e f hij q1 q2 => s.dj i j e f hij (at_ q1).2 (at_ q2).2, s.yz, s.zl, s0.pin⟩
  · obtain ⟨h, q⟩ := at_ q
    obtain ⟨w, hw, r⟩ := s.fz i e q
    exact ⟨w, by rw [List.getElem?_append_left h] at hw; exact hw, r⟩
  · obtain ⟨h, q⟩ := at_ q
    obtain ⟨w, hw, r⟩ := s.ow i e q
    exact ⟨w, by rw [List.getElem?_append_left h] at hw; exact hw, r⟩
end
section
variable {T : Tx} {F : Fm} {W : WX'} {X : Cx} {CX : CXT} {k n c : Nat} {f : Addr} {fn : Fn} {fd : FuncData} {ps ks : List Str} {x m : Str} {p pos apos : Pos} {e o : Expr} {es : List Expr} {kws : List Keyword}
variable {gv : List Value → List Value → List Value} {gV : List V → List V → List V} {gA : List Ar → List Ar → List Ar}
def r1 (T : Tx) (a : Ar) (_ : List Sl) (g : Gh) (σ : St) (H : Hp) (v : V) : Prop := rAr T g σ H a v
def SA1 (T : Tx) (F : Fm) (W : WX') (X : Cx) (e : Expr) (t : EA1) : Prop := PE X e (den T F W (r1 T) t)
theorem a1_v {t : EE} (h : SE T F W X e t) : SA1 T F W X e (a1V t) := pe_imp h fun σ H Q q => den.bind q fun d ρ1 g0 H0 g1 H1 v s1 e1 r1 p1 => p1.ok e1 r1
theorem a1_s {i : Nat} (hN : X.N[i]? = some x) (hv : Vis X.env.scope x) (hd : (x == ("__debug__" : Str)) = false := by decide) (hcd : (x == ("__classdict__" : Str)) = false := by decide) : SA1 T F W X (.Name x pos) (a1S i) := by
  refine pe_imp (pe_var hN hv hd hcd) fun σ H Q q => ?_
  obtain ⟨g, ρ, s, q⟩ := q
  unfold a1S at q
  split at q
  · rename_i d e1
    obtain ⟨v, hv, _⟩ := s.ow i d (getD_some e1 (by simp))
    exact ⟨v, hv, q v g H .refl s hv⟩
  · exact q.elim
theorem mt_den {σ : St} {H : Hp} {Q : VK} {to : EA1} {t tk : EAr} {m' : Nat} (ga : GRel T gA gV (n + 1) m') (hl : ∀ as bs, as.length = n + 1 → bs.length = m' → (gA as bs).length = ps.length) (q : den T F W (rR T F) (eMt c m fn n m' gA to t tk) σ H Q) :
    tMt (T.cl c) m n m' (spF T ps.length fn) gV (fun σ cls d H => W cls d σ H) (den T F W (r1 T) to) (den T F W (rArs T) t) (den T F W (rArs T) tk) σ H Q := by
  refine den.bind q fun a ρ0 g9 H9 g0 H0 x s0 e0 r0 p0 => ?_
  split at p0
  · rename_i hi
    have hd : ∃ fs, a.get ρ0 = some (.ins c fs) ∧ fs.lookup m = none := by
      unfold isInsOf at hi
      split at hi
      · rename_i c' fs e
        simp only [Bool.and_eq_true, beq_iff_eq, Option.isNone_iff_eq_none] at hi
        obtain ⟨rfl, h2⟩ := hi
        exact ⟨fs, e, h2⟩
      · cases hi
    obtain ⟨fs, hd, hm⟩ := hd
    obtain ⟨ad, dx, ws, rfl, h, _, ek, ra⟩ := (Ar.rv e0 r0 hd).ins
    refine ⟨ad, dx, ws, rfl, h, ?_, g0, ρ0, e0, Po.bind p0 fun as ρ1 g1 H1 vs s1 e1 r1 p1 => ?_⟩
    · rcases lookup_rel m ek ra with ⟨_, q⟩ | ⟨d, v, q, _⟩
      · exact q
      · rw [hm] at q; cases q
    refine ⟨g1, ρ1, e1, Po.bind p1 fun bs ρ2 g2 H2 zs s2 e2 r2 p2 => ?_⟩
    split at p2
    · rename_i hh
      have r1' := RAr.step (H' := H2) s2.st r1
      have r0' : rAr T g2 σ H2 a (.ref ad) := by
        cases a with
        | v d => exact R.step (s1.trans s2).st r0
        | s i => exact r0
      have rr := ga g2 σ H2 (a :: as) bs (.ref ad :: vs) zs (congrArg (· + 1) hh.1) hh.2 (.cons r0' r1') r2
      exact ⟨⟨by rw [← r1'.len]; exact hh.1, by rw [← RAr.len r2]; exact hh.2⟩, call_sp e2 rr (by rw [← rr.len]; exact hl (a :: as) bs (congrArg (· + 1) hh.1) hh.2) p2⟩
    · exact p2.elim
  · exact p0.elim
theorem c_mt0 {pl : Sem Bool} {to : EA1} {tk : EAr} (hK : X.K = T.K) (ho : SA1 T F W X o to) (hc : Cls T.K (T.cl c)) (mt : Meth T.K (T.cl c) m f) (G : FnOk X.prog X.w X.K X.mg X.base CX k f fd ps (spF T ps.length fn)) (room : Room k X.A) (bd : KBn X.K fd ps 1 ks gv gV) (pa : Pa CX X W)
    (ga : GRel T gA gV 1 ks.length) (hl : ∀ as bs, as.length = 1 → bs.length = ks.length → (gA as bs).length = ps.length) (hkw : SKr T F W X kws tk)
    (hall : (backToKw pos (keywordEach kws X.env)).all (fun z => z.1.isSome) = true := by rfl) (hks : (backToKw pos (keywordEach kws X.env)).filterMap (fun z => z.1) = ks := by rfl)
    (hpl : ((backTo pos (starEach [] X.env)).any (fun z => z.1) || (backToKw pos (keywordEach kws X.env)).any (fun z => z.1.isNone)) = false := by rfl)
    (ht : eval (.Call (.Attribute o m apos) [] kws pos) X.env = (do
      let w ← eval o X.env
      standAt apos.atName
      let (f, first) ← holding [w] (getMethod w m pl)
      callWith pos f first (backTo pos (starEach [] X.env)) (backToKw pos (keywordEach kws X.env))) := by rfl) :
    SC T F W X (.Call (.Attribute o m apos) [] kws pos) (eMt c m fn 0 ks.length gA to rNil tk) := by
  refine pe_imp (pe_mt0 (pl := pl) (E := fun σ cls d H => W cls d σ H) ho (by rw [hK]; exact hc) (by rw [hK]; exact mt) G room bd pa hkw hall hks hpl ht) fun σ H Q q => ?_
  have h := mt_den (ps := ps) (n := 0) ga hl q
  obtain ⟨g, ρ, s, h⟩ := h
  refine ⟨g, ρ, s, Po.imp h fun b H' h => ?_⟩
  obtain ⟨a, dx, fs, h1, h2, h3, g, ρ, s, h⟩ := h
  exact ⟨a, dx, fs, h1, h2, h3, h [] g H' .refl s .nil⟩
theorem c_mt {pl : Sem Bool} {to : EA1} {t tk : EAr} (hK : X.K = T.K) (ho : SA1 T F W X o to) (hc : Cls T.K (T.cl c)) (mt : Meth T.K (T.cl c) m f) (G : FnOk X.prog X.w X.K X.mg X.base CX k f fd ps (spF T ps.length fn)) (room : Room k X.A) (bd : KBn X.K fd ps (n + 1) ks gv gV) (pa : Pa CX X W)
    (ga : GRel T gA gV (n + 1) ks.length) (hl : ∀ as bs, as.length = n + 1 → bs.length = ks.length → (gA as bs).length = ps.length) (ha : SAr T F W X (e :: es) t) (hkw : SKr T F W X kws tk)
    (hall : (backToKw pos (keywordEach kws X.env)).all (fun z => z.1.isSome) = true := by rfl) (hks : (backToKw pos (keywordEach kws X.env)).filterMap (fun z => z.1) = ks := by rfl)
    (hpl : ((backTo pos (starEach (e :: es) X.env)).any (fun z => z.1) || (backToKw pos (keywordEach kws X.env)).any (fun z => z.1.isNone)) = false := by rfl)
    (he : starEach (e :: es) X.env = (false, eval e X.env) :: starEach es X.env := by rfl)
    (ht : eval (.Call (.Attribute o m apos) (e :: es) kws pos) X.env = (do
      let w ← eval o X.env
      standAt apos.atName
      let (f, first) ← holding [w] (getMethod w m pl)
      callWith pos f first (backTo pos (starEach (e :: es) X.env)) (backToKw pos (keywordEach kws X.env))) := by rfl) :
    SC T F W X (.Call (.Attribute o m apos) (e :: es) kws pos) (eMt c m fn n ks.length gA to t tk) :=
  pe_imp (pe_mt (pl := pl) (E := fun σ cls d H => W cls d σ H) ho (by rw [hK]; exact hc) (by rw [hK]; exact mt) G room bd pa ha hkw hall hks hpl he ht) fun σ H Q q => mt_den ga hl q
theorem mk_den {σ : St} {H : Hp} {Q : VK} {t tk : EAr} {m' : Nat} (ga : GRel T gA gV (n + 1) m') (hl : ∀ as bs, as.length = n + 1 → bs.length = m' → (gA as bs).length = ps.length) (q : den T F W (rF T F) (eMk c fn n m' gA t tk) σ H Q) :
    tMkx (T.cl c) n m' (spF T ps.length fn) gV (fun σ cls d H => W cls d σ H) (den T F W (rArs T) t) (den T F W (rArs T) tk) σ H Q := by
  refine den.bind q fun as ρ1 g0 H0 g1 H1 vs s1 e1 r1 p1 => ?_
  refine ⟨g1, ρ1, e1, Po.bind p1 fun bs ρ2 g2 H2 zs s2 e2 r2 p2 => ?_⟩
  split at p2
  · rename_i hh
    have r1' := RAr.step (H' := H2) s2.st r1
    refine ⟨⟨by rw [← r1'.len]; exact hh.1, by rw [← RAr.len r2]; exact hh.2⟩, fun x dx hx hdx ne => ?_⟩
    have gr : Gr H2 (upd (upd H2 dx (.own x)) x (.ins (T.cl c) dx [])) := (Gr.alloc hdx).trans (Gr.alloc (by rw [upd_ne ne.symm]; exact hx))
    have hX : upd (upd H2 dx (.own x)) x (.ins (T.cl c) dx []) x = some (.ins (T.cl c) dx []) := upd_same
    have hD : upd (upd H2 dx (.own x)) x (.ins (T.cl c) dx []) dx = some (.own x) := by rw [upd_ne ne]; exact upd_same
    obtain ⟨a1, a2, a3, a4⟩ := e2.more (fp := [x, dx]) gr (fun a ha => by
      simp at ha
      rcases ha with rfl | rfl
      · exact ⟨hx, _, hX⟩
      · exact ⟨hdx, _, hD⟩)
    have own : Own T _ (g2.more [x, dx]).Z (.ref x) (.ins c []) [x, dx] := .ins hX hD rfl .nil
    have e3 := a2.snoc own a3 a4
    have hlen : ρ2.length = σ.length := e2.len
    have rx : rAr T ((g2.more [x, dx]).at ρ2.length [x, dx]) (σ ++ [some (.ref x)]) (upd (upd H2 dx (.own x)) x (.ins (T.cl c) dx [])) (.s ρ2.length) (.ref x) := by
      show (σ ++ [some (V.ref x)])[ρ2.length]? = _
      rw [hlen, List.getElem?_append_right (Nat.le_refl _)]; simp
    have up : ∀ {as : List Ar} {vs : List V}, RAr T g2 σ H2 as vs → RAr T ((g2.more [x, dx]).at ρ2.length [x, dx]) (σ ++ [some (.ref x)]) (upd (upd H2 dx (.own x)) x (.ins (T.cl c) dx [])) as vs := fun h =>
      (RAr.step (g' := (g2.more [x, dx]).at ρ2.length [x, dx]) a1.st h).ext
    have rr := ga _ _ _ (.s ρ2.length :: as) bs (.ref x :: vs) zs (congrArg (· + 1) hh.1) hh.2 (.cons rx (up r1')) (up r2)
    have stp : Stp F g2 H2 ((g2.more [x, dx]).at ρ2.length [x, dx]) _ := ⟨a1.st, a1.pr⟩
    refine call_sp (W := fun cls d _ H => W cls d σ H) e3 rr (by rw [← rr.len]; exact hl _ bs (congrArg (· + 1) hh.1) hh.2) ?_
    cases hcf : callF fn (gA (.s ρ2.length :: as) bs) (ρ2 ++ [.ow (.ins c [])]) with
    | no => rw [hcf] at p2; exact p2.elim
    | ex y ρ' =>
      rw [hcf] at p2
      simp only [mkEnd] at p2
      intro cls d g' H' s' e' r'
      refine p2 cls d g' H' (stp.trans ⟨s'.st, s'.pr⟩) ?_ r'
      rw [hlen]; exact SR.unsnoc (Y := F.Y) e2 e'
    | ok sl ρ' =>
      rw [hcf] at p2
      intro v g' H' s' e' r'
      cases sl with
      | no => exact p2.elim
      | ow d => exact p2.elim
      | fz d =>
        cases d <;> try exact p2.elim
        cases r'
        refine ⟨rfl, ?_⟩
        simp only [mkEnd] at p2
        cases hsl : ρ'.getD ρ2.length .no with
        | no => rw [hsl] at p2; exact p2.elim
        | fz d => rw [hsl] at p2; exact p2.elim
        | ow d =>
          rw [hsl] at p2
          have hsl := getD_some hsl (by simp)
          obtain ⟨w, hw, o, hz⟩ := e'.ow ρ2.length d hsl
          rw [hlen, List.getElem?_append_right (Nat.le_refl _)] at hw
          simp at hw
          subst hw
          refine p2 (.ref x) g' H' (stp.trans ⟨s'.st, s'.pr⟩) (by rw [hlen]; exact SR.unsnoc (Y := F.Y) e2 e') ⟨_, o, hz, fun i e q a ha => ?_⟩
          rw [List.getElem?_take] at q
          split at q
          · rename_i hi
            exact e'.dj i ρ2.length e d (Nat.ne_of_lt hi) q hsl a ha
          · cases q
  · exact p2.elim
theorem n_mk0 {tk : EAr} (M : Mk X.K (T.cl c) f) (G : FnOk X.prog X.w X.K X.mg X.base CX k f fd ps (spF T ps.length fn)) (room : Room (k + 1) X.A) (gl : Gl X x) (hm : X.mg x = some (.ref (T.cl c))) (bd : KBn X.K fd ps 1 ks gv gV) (pa : Pa CX X W)
    (ga : GRel T gA gV 1 ks.length) (hl : ∀ as bs, as.length = 1 → bs.length = ks.length → (gA as bs).length = ps.length) (hkw : SKr T F W X kws tk)
    (hall : (backToKw pos (keywordEach kws X.env)).all (fun z => z.1.isSome) = true := by rfl) (hks : (backToKw pos (keywordEach kws X.env)).filterMap (fun z => z.1) = ks := by rfl)
    (hpl : ((backTo pos (starEach [] X.env)).any (fun z => z.1) || (backToKw pos (keywordEach kws X.env)).any (fun z => z.1.isNone)) = false := by rfl) (hdb : (x == ("__debug__" : Str)) = false := by decide) :
    SN T F W X (.Call (.Name x p) [] kws pos) (eMk c fn 0 ks.length gA rNil tk) :=
  pe_imp (pe_mkx0 (E := fun σ cls d H => W cls d σ H) M G room gl hm bd pa hkw hall hks hpl hdb) fun σ H Q q => by
    obtain ⟨g, ρ, s, h⟩ := mk_den (ps := ps) (n := 0) ga hl q
    exact h [] g H .refl s .nil
theorem n_mk {t tk : EAr} (M : Mk X.K (T.cl c) f) (G : FnOk X.prog X.w X.K X.mg X.base CX k f fd ps (spF T ps.length fn)) (room : Room (k + 1) X.A) (gl : Gl X x) (hm : X.mg x = some (.ref (T.cl c))) (bd : KBn X.K fd ps (n + 1) ks gv gV) (pa : Pa CX X W)
    (ga : GRel T gA gV (n + 1) ks.length) (hl : ∀ as bs, as.length = n + 1 → bs.length = ks.length → (gA as bs).length = ps.length) (ha : SAr T F W X (e :: es) t) (hkw : SKr T F W X kws tk)
    (hall : (backToKw pos (keywordEach kws X.env)).all (fun z => z.1.isSome) = true := by rfl) (hks : (backToKw pos (keywordEach kws X.env)).filterMap (fun z => z.1) = ks := by rfl)
    (hpl : ((backTo pos (starEach (e :: es) X.env)).any (fun z => z.1) || (backToKw pos (keywordEach kws X.env)).any (fun z => z.1.isNone)) = false := by rfl)
    (he : starEach (e :: es) X.env = (false, eval e X.env) :: starEach es X.env := by rfl) (hdb : (x == ("__debug__" : Str)) = false := by decide) :
    SN T F W X (.Call (.Name x p) (e :: es) kws pos) (eMk c fn n ks.length gA t tk) :=
  pe_imp (pe_mkx (E := fun σ cls d H => W cls d σ H) M G room gl hm bd pa ha hkw hall hks hpl he hdb) fun σ H Q q => mk_den ga hl q
end
end Lc
namespace Lc
open PySem L2

def fput (f : Str) (v : D) : List (Str × D) → List (Str × D)
  | [] => [(f, v)]
  | (g, x) :: r => if g = f then (g, v) :: r else (g, x) :: fput f v r
section
variable {T : Tx} {F : Fm} {g : Gh} {σ : St} {H : Hp} {ρ : List Sl} {Z : Zs}
theorem kput_rel {κ : Type} [DecidableEq κ] {ws : List (κ × V)} {kvs : List (κ × D)} (k : κ) {v : V} {d : D} (e : ws.map (·.1) = kvs.map (·.1)) (r : RA T H Z (ws.map (·.2)) (kvs.map (·.2))) (rv : R T H Z v d) :
    (putK ws k v).map (·.1) = (kput kvs k d).map (·.1) ∧ RA T H Z ((putK ws k v).map (·.2)) ((kput kvs k d).map (·.2)) := by
  have hany : (ws.any fun kv => decide (kv.1 = k)) = kvs.any fun kv => decide (kv.1 = k) := by
    have h1 : (ws.any fun kv => decide (kv.1 = k)) = (ws.map (·.1)).any fun x => decide (x = k) := by rw [List.any_map]; rfl
    have h2 : (kvs.any fun kv => decide (kv.1 = k)) = (kvs.map (·.1)).any fun x => decide (x = k) := by rw [List.any_map]; rfl
    rw [h1, h2, e]
  unfold putK kput
  rw [hany]
  split
  · clear hany
    rename_i _h; clear _h
    induction ws generalizing kvs with
    | nil => cases kvs with
      | nil => exact ⟨rfl, .nil⟩
      | cons => cases e
    | cons p ws ih => cases kvs with
      | nil => cases e
      | cons q kvs =>
        simp only [List.map_cons, List.cons.injEq] at e
        cases r with
        | cons r t =>
          obtain ⟨a, b⟩ := ih e.2 t
          simp only [List.map_cons]
          by_cases h : p.1 = k
          · rw [if_pos h, if_pos (by rw [← e.1]; exact h)]
            exact ⟨by simp only [List.cons.injEq]; exact ⟨e.1, a⟩, .cons rv b⟩
          · rw [if_neg h, if_neg (by rw [← e.1]; exact h)]
            exact ⟨by simp only [List.cons.injEq]; exact ⟨e.1, a⟩, .cons r b⟩
  · simp only [List.map_append, List.map_cons, List.map_nil]
    exact ⟨by rw [e], r.app (.one rv)⟩
theorem fput_rel {f : Str} {v : V} {d : D} (rv : R T H Z v d) : ∀ {ws : List (Str × V)} {fs : List (Str × D)}, ws.map (·.1) = fs.map (·.1) → RA T H Z (ws.map (·.2)) (fs.map (·.2)) → (putF f v ws).map (·.1) = (fput f d fs).map (·.1) ∧ RA T H Z ((putF f v ws).map (·.2)) ((fput f d fs).map (·.2))
  | [], [], _, _ => ⟨rfl, .one rv⟩
  | [], _ :: _, e, _ => by cases e
  | _ :: _, [], e, _ => by cases e
  | (g1, x) :: ws, (g2, y) :: fs, e, .cons r t => by
    simp only [List.map_cons, List.cons.injEq] at e
    obtain ⟨rfl, e⟩ := e
    simp only [putF, fput]
    by_cases h : g1 = f
    · rw [if_pos h, if_pos h]; exact ⟨by simp [e], .cons rv t⟩
    · rw [if_neg h, if_neg h]
      obtain ⟨a, b⟩ := fput_rel rv e t
      exact ⟨by simp [a], .cons r b⟩
theorem SR.own1 (s : SR T F g ρ σ H) {i : Nat} {d : D} (h : ρ.getD i .no = .ow d) : ρ[i]? = some (.ow d) ∧ ∃ v, σ[i]? = some (some v) ∧ Own T H g.Z v d (g.fp i) := by
  have h := getD_some h (by simp)
  obtain ⟨v, hv, o, _⟩ := s.ow i d h
  exact ⟨h, v, hv, o⟩
/-- one object of a slot is written -/
theorem SR.wr1 (s : SR T F g ρ σ H) {i : Nat} {d d' : D} {a : Addr} {o o' : HO} (h : ρ[i]? = some (.ow d)) (ha : a ∈ g.fp i) (hH : H a = some o) (n1 : ∀ ps, o ≠ .tbl ps) (n2 : ∀ b u, o ≠ .frz b u)
    (nt : ∀ b ∈ g.fp i, (∀ ps, H b ≠ some (.tbl ps)) ∧ ∀ o u, H b ≠ some (.frz o u)) (there : ∀ b ∈ g.fp i, ∃ o, H b = some o)
    (new : ∀ v, σ[i]? = some (some v) → Step H g.Z (upd H a o') g.Z → Own T (upd H a o') g.Z v d' (g.fp i)) : Stp F g H g (upd H a o') ∧ SR T F g (ρ.set i (.ow d')) σ (upd H a o') :=
  s.write h (fun b hb => upd_ne fun e => hb (e ▸ ha)) (fun b hb => by
    by_cases e : b = a
    · subst e; exact ⟨_, upd_same⟩
    · obtain ⟨o, ho⟩ := there b hb
      exact ⟨o, by rw [upd_ne e]; exact ho⟩) nt new
theorem SR.wrL (s : SR T F g ρ σ H) {i : Nat} {ds ds' : List D} {a : Addr} {xs xs' : List V} (h : ρ[i]? = some (.ow (.lst ds))) (hv : σ[i]? = some (some (.ref a))) (hH : H a = some (.lst xs)) (r : RA T H g.Z xs' ds') :
    Stp F g H g (upd H a (.lst xs')) ∧ SR T F g (ρ.set i (.ow (.lst ds'))) σ (upd H a (.lst xs')) := by
  obtain ⟨v, hv2, o, _⟩ := s.ow i _ h
  rw [hv] at hv2; cases hv2
  cases e : g.fp i with
  | nil => rw [e] at o; cases o
  | cons b t =>
    rw [e] at o
    cases o with
    | lst h2 r2 =>
      have one : ∀ {c : Addr}, c ∈ g.fp i → c = a := fun {c} hc => by rw [e] at hc; simpa using hc
      refine s.wr1 h (by rw [e]; simp) hH (fun _ h => (nomatch h)) (fun _ _ h => (nomatch h)) (fun b hb => ?_) (fun b hb => by rw [one hb]; exact ⟨_, hH⟩) fun v hv3 st => ?_
      · rw [one hb, hH]; exact ⟨fun _ h => (nomatch h), fun _ _ h => (nomatch h)⟩
      · rw [hv] at hv3; cases hv3
        rw [e]; exact .lst upd_same (RA.step st r)
theorem SR.wrK (s : SR T F g ρ σ H) {i : Nat} {ds ds' : List (Key × D)} {a : Addr} {xs xs' : List (Key × V)} (h : ρ[i]? = some (.ow (.dk ds))) (hv : σ[i]? = some (some (.ref a))) (hH : H a = some (.dK xs)) (k : xs'.map (·.1) = ds'.map (·.1)) (r : RA T H g.Z (xs'.map (·.2)) (ds'.map (·.2))) :
    Stp F g H g (upd H a (.dK xs')) ∧ SR T F g (ρ.set i (.ow (.dk ds'))) σ (upd H a (.dK xs')) := by
  obtain ⟨v, hv2, o, _⟩ := s.ow i _ h
  rw [hv] at hv2; cases hv2
  cases e : g.fp i with
  | nil => rw [e] at o; cases o
  | cons b t =>
    rw [e] at o
    cases o with
    | dk h2 k2 r2 =>
      have one : ∀ {c : Addr}, c ∈ g.fp i → c = a := fun {c} hc => by rw [e] at hc; simpa using hc
      refine s.wr1 h (by rw [e]; simp) hH (fun _ h => (nomatch h)) (fun _ _ h => (nomatch h)) (fun b hb => ?_) (fun b hb => by rw [one hb]; exact ⟨_, hH⟩) fun v hv3 st => ?_
      · rw [one hb, hH]; exact ⟨fun _ h => (nomatch h), fun _ _ h => (nomatch h)⟩
      · rw [hv] at hv3; cases hv3
        rw [e]; exact .dk upd_same k (RA.step st r)
theorem SR.wrT (s : SR T F g ρ σ H) {i : Nat} {ds ds' : List (List Key × D)} {a : Addr} {xs xs' : List (List Key × V)} (h : ρ[i]? = some (.ow (.dt ds))) (hv : σ[i]? = some (some (.ref a))) (hH : H a = some (.dT xs)) (k : xs'.map (·.1) = ds'.map (·.1)) (r : RA T H g.Z (xs'.map (·.2)) (ds'.map (·.2))) :
    Stp F g H g (upd H a (.dT xs')) ∧ SR T F g (ρ.set i (.ow (.dt ds'))) σ (upd H a (.dT xs')) := by
  obtain ⟨v, hv2, o, _⟩ := s.ow i _ h
  rw [hv] at hv2; cases hv2
  cases e : g.fp i with
  | nil => rw [e] at o; cases o
  | cons b t =>
    rw [e] at o
    cases o with
    | dt h2 k2 r2 =>
      have one : ∀ {c : Addr}, c ∈ g.fp i → c = a := fun {c} hc => by rw [e] at hc; simpa using hc
      refine s.wr1 h (by rw [e]; simp) hH (fun _ h => (nomatch h)) (fun _ _ h => (nomatch h)) (fun b hb => ?_) (fun b hb => by rw [one hb]; exact ⟨_, hH⟩) fun v hv3 st => ?_
      · rw [one hb, hH]; exact ⟨fun _ h => (nomatch h), fun _ _ h => (nomatch h)⟩
      · rw [hv] at hv3; cases hv3
        rw [e]; exact .dt upd_same k (RA.step st r)
theorem SR.wrI (s : SR T F g ρ σ H) {i c : Nat} {ds ds' : List (Str × D)} {a dx : Addr} {xs xs' : List (Str × V)} (h : ρ[i]? = some (.ow (.ins c ds))) (hv : σ[i]? = some (some (.ref a))) (hH : H a = some (.ins (T.cl c) dx xs)) (k : xs'.map (·.1) = ds'.map (·.1)) (r : RA T H g.Z (xs'.map (·.2)) (ds'.map (·.2))) :
    Stp F g H g (upd H a (.ins (T.cl c) dx xs')) ∧ SR T F g (ρ.set i (.ow (.ins c ds'))) σ (upd H a (.ins (T.cl c) dx xs')) := by
  obtain ⟨v, hv2, o, _⟩ := s.ow i _ h
  rw [hv] at hv2; cases hv2
  generalize hfp : g.fp i = fp at o
  cases o with
  | ins h2 h3 k2 r2 =>
    rw [hH] at h2; cases h2
    have two : ∀ {b : Addr}, b ∈ g.fp i → b = a ∨ b = dx := fun {b} hb => by rw [hfp] at hb; simpa using hb
    refine s.wr1 h (by rw [hfp]; simp) hH (fun _ h => (nomatch h)) (fun _ _ h => (nomatch h)) (fun b hb => ?_) (fun b hb => ?_) fun v hv3 st => ?_
    · rcases two hb with e | e
      · rw [e, hH]; exact ⟨fun _ h => (nomatch h), fun _ _ h => (nomatch h)⟩
      · rw [e, h3]; exact ⟨fun _ h => (nomatch h), fun _ _ h => (nomatch h)⟩
    · rcases two hb with e | e
      · exact ⟨_, by rw [e]; exact hH⟩
      · exact ⟨_, by rw [e]; exact h3⟩
    · rw [hv] at hv3; cases hv3
      rw [hfp]
      have ne : dx ≠ a := fun e => by rw [e, hH] at h3; cases h3
      exact .ins upd_same (by rw [upd_ne ne]; exact h3) k (RA.step st r)
end

def eApp (i : Nat) (t : EE) : EE := fun ρ => match ρ.getD i .no with
  | .ow (.lst _) => (t ρ).bind fun d ρ => (match ρ.getD i .no with
    | .ow (.lst xs) => if xs.length < LIM then .ok .non (ρ.set i (.ow (.lst (xs ++ [d])))) else .no
    | _ => .no)
  | _ => .no
def eExt (i : Nat) (t : EE) : EE := fun ρ => match ρ.getD i .no with
  | .ow (.lst _) => (t ρ).bind fun d ρ => (match ρ.getD i .no, d with
    | .ow (.lst xs), .lst ys => if xs.length + ys.length < LIM then .ok .non (ρ.set i (.ow (.lst (xs ++ ys)))) else .no
    | _, _ => .no)
  | _ => .no
/-- the last one is taken out -/
def ePop (i : Nat) : EE := fun ρ => match ρ.getD i .no with
  | .ow (.lst xs) => (match xs[xs.length - 1]? with
    | some d => .ok d (ρ.set i (.ow (.lst xs.dropLast)))
    | none => .no)
  | _ => .no
def ePop0 (i : Nat) : EE := fun ρ => match ρ.getD i .no with
  | .ow (.lst (d :: r)) => .ok d (ρ.set i (.ow (.lst r)))
  | _ => .no
section
variable {T : Tx} {F : Fm} {W : WX'} {X : Cx} {i : Nat} {x : Str} {p pos apos cpos : Pos} {e : Expr}
theorem ownL {g : Gh} {H : Hp} {v : V} {ds : List D} {fp : List Addr} (o : Own T H g.Z v (.lst ds) fp) : ∃ a xs, v = .ref a ∧ fp = [a] ∧ H a = some (.lst xs) ∧ RA T H g.Z xs ds := by
  cases o with
  | lst h r => exact ⟨_, _, rfl, rfl, h, r⟩
theorem s_app {t : EE} (hN : X.N[i]? = some x) (hv : Vis X.env.scope x) (h : SE T F W X e t) (hd : (x == ("__debug__" : Str)) = false := by decide) (hcd : (x == ("__classdict__" : Str)) = false := by decide)
    (hbase : attributeBase (.Name x p) "append" X.env (eval (.Name x p) X.env) = eval (.Name x p) X.env := by rfl)
    (hfew : ((backTo cpos (starEach [e] X.env)).all (fun x => !x.1) && (backToKw cpos (keywordEach [] X.env)).all (fun x => x.1.isSome) && decide (([e] : List Expr).length + ([] : List Keyword).length + (if ([] : List Keyword).isEmpty then 0 else 1) < 30)) = true := by rfl)
    (hline : (apos.endLine == cpos.line) = true := by rfl) (hs : starEach [e] X.env = (false, eval e X.env) :: starEach [] X.env := by rfl) (hpl : (backTo cpos (starEach [] X.env)).any (·.1) = false := by rfl) :
    SE T F W X (.Call (.Attribute (.Name x p) "append" apos) [e] [] cpos) (eApp i t) := by
  refine pe_imp (pe_bm PySem.F.plainAttrs_list PySem.F.slot_list_append PySem.F.type_list_append mt_append (pe_var hN hv hd hcd) (pa_cons h pa_nil hs) hbase hfew hline hs hpl) fun σ H Q q => ?_
  obtain ⟨g, ρ, s, q⟩ := q
  unfold eApp at q
  split at q
  · rename_i ds0 e0
    obtain ⟨_, v, hv, o⟩ := s.own1 e0
    obtain ⟨a, xs, rfl, _, hH, _⟩ := ownL o
    refine ⟨_, hv, .inl ⟨rfl, xs, .of hH⟩, g, ρ, s, Po.bind q fun d ρ2 g2 H2 w s2 e2 r2 p2 => ?_⟩
    split at p2
    · rename_i ds e1
      split at p2
      · rename_i hlt
        obtain ⟨h1, v, hv2, o⟩ := e2.own1 e1
        rw [hv] at hv2; cases hv2
        obtain ⟨a', xs, ea, _, hH, ra⟩ := ownL o
        cases ea
        obtain ⟨w1, w2⟩ := e2.wrL h1 hv hH (ra.app (.one r2))
        exact ⟨a, xs, w, rfl, rfl, hH, by rw [ra.len]; exact Nat.lt_of_lt_of_le hlt (by decide), p2 _ g2 _ w1 w2 .non⟩
      · exact p2.elim
    · exact p2.elim
  · exact q.elim
theorem s_ext {t : EE} (hN : X.N[i]? = some x) (hv : Vis X.env.scope x) (h : SE T F W X e t) (hd : (x == ("__debug__" : Str)) = false := by decide) (hcd : (x == ("__classdict__" : Str)) = false := by decide)
    (hbase : attributeBase (.Name x p) "extend" X.env (eval (.Name x p) X.env) = eval (.Name x p) X.env := by rfl)
    (hfew : ((backTo cpos (starEach [e] X.env)).all (fun x => !x.1) && (backToKw cpos (keywordEach [] X.env)).all (fun x => x.1.isSome) && decide (([e] : List Expr).length + ([] : List Keyword).length + (if ([] : List Keyword).isEmpty then 0 else 1) < 30)) = true := by rfl)
    (hline : (apos.endLine == cpos.line) = true := by rfl) (hs : starEach [e] X.env = (false, eval e X.env) :: starEach [] X.env := by rfl) (hpl : (backTo cpos (starEach [] X.env)).any (·.1) = false := by rfl) :
    SE T F W X (.Call (.Attribute (.Name x p) "extend" apos) [e] [] cpos) (eExt i t) := by
  refine pe_imp (pe_bm PySem.F.plainAttrs_list PySem.F.slot_list_extend PySem.F.type_list_extend mt_extend (pe_var hN hv hd hcd) (pa_cons h pa_nil hs) hbase hfew hline hs hpl) fun σ H Q q => ?_
  obtain ⟨g, ρ, s, q⟩ := q
  unfold eExt at q
  split at q
  · rename_i ds0 e0
    obtain ⟨_, v, hv, o⟩ := s.own1 e0
    obtain ⟨a, xs, rfl, _, hH, _⟩ := ownL o
    refine ⟨_, hv, .inl ⟨rfl, xs, .of hH⟩, g, ρ, s, Po.bind q fun d ρ2 g2 H2 w s2 e2 r2 p2 => ?_⟩
    split at p2
    · rename_i ds ys e1
      split at p2
      · rename_i hlt
        obtain ⟨h1, v, hv2, o⟩ := e2.own1 e1
        rw [hv] at hv2; cases hv2
        obtain ⟨a', xs, ea, _, hH, ra⟩ := ownL o
        cases ea
        obtain ⟨b, zs, rfl, hB, rb⟩ := (Rv.of r2).lst
        obtain ⟨w1, w2⟩ := e2.wrL h1 hv hH (ra.app rb)
        exact ⟨a, b, xs, zs, rfl, rfl, hH, hB, by rw [ra.len, rb.len]; exact Nat.le_trans (Nat.le_of_lt hlt) (by decide), p2 _ g2 _ w1 w2 .non⟩
      · exact p2.elim
    · exact p2.elim
  · exact q.elim
theorem RA.dropLast_ {H : Hp} {Z : Zs} {vs : List V} {ds : List D} (h : RA T H Z vs ds) : RA T H Z vs.dropLast ds.dropLast := by
  rw [List.dropLast_eq_take, List.dropLast_eq_take, h.len]; exact RA.take _ h
theorem s_pop (hN : X.N[i]? = some x) (hv : Vis X.env.scope x) (hd : (x == ("__debug__" : Str)) = false := by decide) (hcd : (x == ("__classdict__" : Str)) = false := by decide)
    (hbase : attributeBase (.Name x p) "pop" X.env (eval (.Name x p) X.env) = eval (.Name x p) X.env := by rfl) (hline : (apos.endLine == cpos.line) = true := by rfl) :
    SE T F W X (.Call (.Attribute (.Name x p) "pop" apos) [] [] cpos) (ePop i) := by
  refine pe_imp (pe_bm0 PySem.F.plainAttrs_list PySem.F.slot_list_pop PySem.F.type_list_pop mt_pop (pe_var hN hv hd hcd) hbase hline) fun σ H Q q => ?_
  obtain ⟨g, ρ, s, q⟩ := q
  unfold ePop at q
  split at q
  · rename_i ds e0
    obtain ⟨h1, v, hv, o⟩ := s.own1 e0
    obtain ⟨a, xs, rfl, _, hH, ra⟩ := ownL o
    split at q
    · rename_i d hd
      obtain ⟨y, hy, ry⟩ := ra.get hd
      obtain ⟨w1, w2⟩ := s.wrL h1 hv hH ra.dropLast_
      exact ⟨_, hv, .inl ⟨rfl, xs, .of hH⟩, a, xs, y, rfl, rfl, hH, by rw [ra.len]; exact hy, q y g _ w1 w2 (R.step w1.st ry)⟩
    · exact q.elim
  · exact q.elim
theorem s_pop0 {k : Nat} {kp : Pos} (hN : X.N[i]? = some x) (hv : Vis X.env.scope x) (hd : (x == ("__debug__" : Str)) = false := by decide) (hcd : (x == ("__classdict__" : Str)) = false := by decide)
    (hbase : attributeBase (.Name x p) "pop" X.env (eval (.Name x p) X.env) = eval (.Name x p) X.env := by rfl)
    (hfew : ((backTo cpos (starEach [(.Constant (.int 0) k kp)] X.env)).all (fun x => !x.1) && (backToKw cpos (keywordEach [] X.env)).all (fun x => x.1.isSome) && decide (([(.Constant (.int 0) k kp)] : List Expr).length + ([] : List Keyword).length + (if ([] : List Keyword).isEmpty then 0 else 1) < 30)) = true := by rfl)
    (hline : (apos.endLine == cpos.line) = true := by rfl) (hs : starEach [(.Constant (.int 0) k kp)] X.env = (false, eval (.Constant (.int 0) k kp) X.env) :: starEach [] X.env := by rfl) (hpl : (backTo cpos (starEach [] X.env)).any (·.1) = false := by rfl) :
    SE T F W X (.Call (.Attribute (.Name x p) "pop" apos) [(.Constant (.int 0) k kp)] [] cpos) (ePop0 i) := by
  refine pe_imp (pe_bm PySem.F.plainAttrs_list PySem.F.slot_list_pop PySem.F.type_list_pop mt_popAt (pe_var hN hv hd hcd) (pa_cons pe_int pa_nil hs) hbase hfew hline hs hpl) fun σ H Q q => ?_
  obtain ⟨g, ρ, s, q⟩ := q
  unfold ePop0 at q
  split at q
  · rename_i d r e0
    obtain ⟨h1, v, hv, o⟩ := s.own1 e0
    obtain ⟨a, xs, rfl, _, hH, ra⟩ := ownL o
    cases ra with
    | cons ry rt =>
      rename_i y ys
      obtain ⟨w1, w2⟩ := s.wrL h1 hv hH rt
      refine ⟨_, hv, .inl ⟨rfl, _, .of hH⟩, a, _, 0, 0, y, rfl, rfl, hH, by decide, by decide, ?_, rfl, q y g _ w1 w2 (R.step w1.st ry)⟩
      simp [seqIndex?]
  · exact q.elim
end

def sFldS (c i : Nat) (f : Str) (t : EE) : ES := fun ρ => (t ρ).thenS fun d ρ => match ρ.getD i .no with
  | .ow (.ins c' fs) => if c' = c ∧ fs.length < 1000 then .nx (ρ.set i (.ow (.ins c (fput f d fs)))) else .no
  | _ => .no
section
variable {T : Tx} {F : Fm} {W : WX'} {X : Cx} {i c : Nat} {x f : Str} {p pos pos' : Pos} {e : Expr}
theorem k_fld {t : EE} (hK : X.K = T.K) (hc : Cls T.K (T.cl c)) (hn : NoAttr T.K (T.cl c) f) (hN : X.N[i]? = some x) (hv : Vis X.env.scope x) (h : SE T F W X e t)
    (hs : swapsWith e (some (.Attribute (.Name x p) f pos')) pos.line X.env = pure false := by rfl) (hd : (x == ("__debug__" : Str)) = false := by decide) (hcd : (x == ("__classdict__" : Str)) = false := by decide) :
    SS T F W X (.Assign [.Attribute (.Name x p) f pos'] e pos) (sFldS c i f t) := by
  refine ps_imp (ps_fld (pe_var hN hv hd hcd) h hs) fun En σ H q => denS.bind q fun d ρ1 g0 H0 g1 H1 v s1 e1 r1 p1 => ?_
  split at p1
  · rename_i c' fs e0
    split at p1
    · rename_i hh
      obtain ⟨rfl, hl⟩ := hh
      obtain ⟨h1, w, hv, o⟩ := e1.own1 e0
      have rv : Rv T H1 g1.Z w (.ins c' fs) := .inr ⟨_, o⟩
      obtain ⟨a, dx, ws, rfl, hH, _, ek, ra⟩ := rv.ins
      obtain ⟨k1, k2⟩ := fput_rel (f := f) r1 ek ra
      obtain ⟨w1, w2⟩ := e1.wrI h1 hv hH k1 k2
      have el := congrArg List.length ek
      rw [List.length_map, List.length_map] at el
      exact ⟨_, hv, a, _, dx, ws, rfl, hH, by rw [hK]; exact hc, by rw [hK]; exact hn, by omega, p1 σ g1 _ w1 w2⟩
    · exact p1.elim
  · exact p1.elim
end
theorem ownK {T : Tx} {Z : Zs} {H : Hp} {v : V} {kvs : List (Key × D)} {fp : List Addr} (o : Own T H Z v (.dk kvs) fp) : ∃ a ws, v = .ref a ∧ H a = some (.dK ws) ∧ ws.map (·.1) = kvs.map (·.1) ∧ RA T H Z (ws.map (·.2)) (kvs.map (·.2)) := by
  cases o with
  | dk h k r => exact ⟨_, _, rfl, h, k, r⟩
theorem ownT {T : Tx} {Z : Zs} {H : Hp} {v : V} {kvs : List (List Key × D)} {fp : List Addr} (o : Own T H Z v (.dt kvs) fp) : ∃ a ws, v = .ref a ∧ H a = some (.dT ws) ∧ ws.map (·.1) = kvs.map (·.1) ∧ RA T H Z (ws.map (·.2)) (kvs.map (·.2)) := by
  cases o with
  | dt h k r => exact ⟨_, _, rfl, h, k, r⟩
def putE (i : Nat) (k d : D) : ES := fun ρ => match ρ.getD i .no with
  | .ow (.dk kvs) => (match keyOf k with
    | some k => if kvs.length < LIM then .nx (ρ.set i (.ow (.dk (kput kvs k d)))) else .no
    | none => .no)
  | .ow (.dt kvs) => (match k with
    | .tup (k0 :: ks) => (match keysOf (k0 :: ks) with
      | some k => if kvs.length < LIM then .nx (ρ.set i (.ow (.dt (kput kvs k d)))) else .no
      | none => .no)
    | _ => .no)
  | _ => .no
def sDPut (i : Nat) (tk tv : EE) : ES := fun ρ => (tv ρ).thenS fun d ρ => match ρ.getD i .no with
  | .ow _ => (tk ρ).thenS fun k ρ => putE i k d ρ
  | _ => .no
section
variable {T : Tx} {F : Fm} {W : WX'} {X : Cx} {i c : Nat} {x f : Str} {p pos pos' : Pos} {e ke : Expr}
theorem k_dput {tk tv : EE} (hu : X.A.units + 1 < cLine) (hN : X.N[i]? = some x) (hv : Vis X.env.scope x) (hk : SE T F W X ke tk) (h : SE T F W X e tv) 
    (mk : ∀ td ty tv, PE X (.Name x p) td → PE X ke ty → PE X e tv → PS X (.Assign [.Subscript (.Name x p) ke pos'] e pos) (L2.sDPut td ty tv)) (hd : (x == ("__debug__" : Str)) = false := by decide) (hcd : (x == ("__classdict__" : Str)) = false := by decide) :
    SS T F W X (.Assign [.Subscript (.Name x p) ke pos'] e pos) (sDPut i tk tv) := by
  refine ps_imp (mk _ _ _ (pe_var hN hv hd hcd) hk h) fun En σ H q => denS.bind q fun d ρ1 g0 H0 g1 H1 v s1 e1 r1 p1 => ?_
  split at p1
  · rename_i d0 e0
    obtain ⟨_, w, hw, _⟩ := e1.own1 e0
    refine ⟨w, hw, ?_⟩
    have q1 : denS T F W (fun ρ => (tk ρ).thenS fun k ρ => putE i k d ρ) En σ H1 := ⟨g1, ρ1, e1, p1⟩
    obtain ⟨g1', ρ1', e1', p1'⟩ := q1
    refine ⟨g1, ρ1, e1, ?_⟩
    cases hk2 : tk ρ1 with
    | no => rw [hk2] at p1; exact p1.elim
    | ex y ρ' => rw [hk2] at p1; exact fun cls dd g2 H2 s2 e2 r2 => p1 σ cls dd g2 H2 s2 e2 r2
    | ok k ρ' =>
      rw [hk2] at p1
      intro y g2 H2 s2 e2 r2
      have p2 := PoS.step (show PoS T F W (putE i k d ρ') g1 H1 En from p1) s2
      have r1' := R.step s2.st r1
      unfold putE at p2
      split at p2
      · rename_i kvs e3
        obtain ⟨h1, w', hw', o⟩ := e2.own1 e3
        rw [hw] at hw'; cases hw'
        obtain ⟨a, ws, rfl, hH, ek, ra⟩ := ownK o
        split at p2
        · rename_i kk hkk
          split at p2
          · rename_i hl
            have := keyOf_rel (.inl r2) hkk
            subst this
            obtain ⟨b1, b2⟩ := kput_rel kk ek ra r1'
            obtain ⟨w1, w2⟩ := e2.wrK h1 hw hH b1 b2
            have el := congrArg List.length ek
            rw [List.length_map, List.length_map] at el
            exact ⟨a, _, rfl, .k hH (by rw [el]; exact Nat.lt_of_lt_of_le hl (by decide)), p2 σ g2 _ w1 w2⟩
          · exact p2.elim
        · exact p2.elim
      · rename_i kvs e3
        obtain ⟨h1, w', hw', o⟩ := e2.own1 e3
        rw [hw] at hw'; cases hw'
        obtain ⟨a, ws, rfl, hH, ek, ra⟩ := ownT o
        split at p2
        · rename_i k0 ks
          split at p2
          · rename_i kk hkk
            split at p2
            · rename_i hl
              obtain ⟨b, xs, rfl, f, _, r3⟩ := (Rv.of r2).tup
              rcases f with ⟨f, _⟩ | ⟨f, _⟩
              · have := keysOf_rel r3 hkk
                subst this
                obtain ⟨b1, b2⟩ := kput_rel kk ek ra r1'
                obtain ⟨w1, w2⟩ := e2.wrT h1 hw hH b1 b2
                have el := congrArg List.length ek
                rw [List.length_map, List.length_map] at el
                exact ⟨a, _, rfl, .t hH f (by rw [el]; exact Nat.lt_of_lt_of_le hl (by decide)), p2 σ g2 _ w1 w2⟩
              · subst f; cases r3
            · exact p2.elim
          · exact p2.elim
        · exact p2.elim
      · exact p2.elim
  · exact p1.elim
end
end Lc
namespace PySem
theorem meets_enum1 {v : Value} {o : Obj} {H : Heap → Prop} (B : PySem.Begins v o H) :
    Meets (Builtin.«enumerate.__new__» ⟨[.type "enumerate", v], []⟩) (fun _ R s => H s.heap ∧
      R (.ok (.ret (.ref (s.heap.push o).objs.size))) { s with heap := (s.heap.push o).push { cls := .type "enumerate", data := .fields #[.none, .bool false, .ref s.heap.objs.size, rawInt 0, .none, .none] } }) :=
  .of_wp fun prog w A R s h => by
    obtain ⟨hp, g, d, tk, os⟩ := s
    obtain ⟨h1, h⟩ := h
    have hsub := sub_enumerate
    have beg : ∀ {A' : Around} {E : Value → Shared → Prop} {Q : Value → Shared → Prop}, Q (.ref hp.objs.size) ⟨hp.push o, g, d, tk, os⟩ → wpAny (model prog w) A' (pyIter v) Q E ⟨hp, g, d, tk, os⟩ :=
      fun q => B.iter prog w _ _ ⟨hp, g, d, tk, os⟩ _ h1 q
    wp_walk using beg
    refine wpAny_stack_any fun st => wpAny_pure ?_
    split
    · rename_i c _ _ _ _ _
      cases (c == Value.type "enumerate")
      · wp_walk using beg
        exact ⟨_, rfl, h⟩
      · wp_walk using beg
        exact ⟨_, rfl, h⟩
    · wp_walk using beg
      exact ⟨_, rfl, h⟩
theorem enum1_of {prog : Program} {w : World} {A : Around} {E : Value → Shared → Prop} {s : Shared} {v : Value} {o : Obj} {H : Heap → Prop} {Q : Value → Shared → Prop} (B : PySem.Begins v o H) (h1 : H s.heap)
    (h : ∀ h', IsEnum h' (s.heap.objs.size + 1) s.heap.objs.size 0 .none → h'.get? s.heap.objs.size = some o → h'.objs.size = s.heap.objs.size + 2 → (∀ b o, s.heap.get? b = some o → h'.get? b = some o) → Q (.ref (s.heap.objs.size + 1)) { s with heap := h' }) :
    wpAny (model prog w) A (call (.type "enumerate") [v]) Q E s := by
  refine callType_new F.called_enumerate (by decide) (F.typeCall_enumerate_1 _) (F.newCall_enumerate_1 _) (fun obj => F.args_object_init_2 obj _) F.entry_enumerate_new (meets_enum1 B) ⟨h1, ?_⟩
  have sz : (s.heap.push o).objs.size = s.heap.objs.size + 1 := Heap.size_push ..
  show _ ∧ _
  rw [sz]
  have en : IsEnum ((s.heap.push o).push { cls := .type "enumerate", data := .fields #[.none, .bool false, .ref s.heap.objs.size, rawInt 0, .none, .none] }) (s.heap.objs.size + 1) s.heap.objs.size 0 .none := by
    have q := Heap.get?_push_size (s.heap.push o) (o := { cls := .type "enumerate", data := .fields #[.none, .bool false, .ref s.heap.objs.size, rawInt 0, .none, .none] }) rfl
    rw [sz] at q
    exact q
  exact ⟨⟨_, en, rfl⟩, h _ en (Heap.get?_push_of_some _ (Heap.get?_push_size _ B.free)) (by rw [Heap.size_push, sz]) fun b o x => Heap.get?_push_of_some _ (Heap.get?_push_of_some _ x)⟩
end PySem
namespace Lc
open PySem L2 PySem.Spec PyProof.Rows
/-- the tuple at a, each item in a new pair -/
def IteT (K : PySem.W.Frag) (a : Addr) : It :=
  ⟨fun i H => ∃ (xs : List V) (x : V), SqT K H a xs ∧ xs[i]? = some x,
   fun i H v H' => ∃ T x, v = .ref T ∧ H T = none ∧ H' = upd H T (.tup [.int (i : Nat), x]) ∧ ∀ xs, SqT K H a xs → xs[i]? = some x,
   fun i H => ∃ xs : List V, SqT K H a xs ∧ xs.length = i⟩
theorem turn_enumT {P : Program} {w : World} {K : PySem.W.Frag} {elts : List Expr} {kk : Nat} {tpos : Pos} (a e it : Addr) :
    Turn P w K (.Tuple elts kk tpos) (IteT K a) [e, it] e (fun i h => (∃ old, IsEnum h e it ((i : Nat) : Int) old) ∧ h.IsTupleIter it a i ∧ e ≠ it ∧ e ≠ a ∧ a ≠ it) where
  mem := by simp
  obj := fun i h st b hb => by
    obtain ⟨⟨old, he⟩, ⟨o, ho, hc, hd⟩, _⟩ := st
    rcases (by simpa using hb : b = e ∨ b = it) with z | z
    · refine ⟨_, by rw [z]; exact he, ?_⟩
      intro v q; cases q
    · exact ⟨o, by rw [z]; exact ho, fun v q => by rw [hd] at q; cases q⟩
  keep := fun i h h' st k => by
    obtain ⟨⟨old, he⟩, hi, hne⟩ := st
    exact ⟨⟨old, k e (by simp) _ he⟩, hi.at fun o q => k it (by simp) o q, hne⟩
  item := by
    intro X hP hw hK hc i pins s σ H E I hf st hg
    subst hP hw hK
    obtain ⟨⟨old, he⟩, hit, hne, hea, hai⟩ := st
    obtain ⟨xs, x, hq, hx⟩ := hg
    obtain ⟨its, rv, p, hz⟩ := I.tuple hq
    obtain ⟨u, hu, ru⟩ := rv.get hx
    have hel : e < s.heap.objs.size := Heap.lt_size he
    have hil : it < s.heap.objs.size := by obtain ⟨_, q, _⟩ := hit; exact Heap.lt_size q
    have hlt : i < its.toArray.size := by
      have := (List.getElem?_eq_some_iff.mp hu).1
      simpa using this
    refine wpAny_pyNext_enum_itemD (Draws.tuple (A := X.A.in1) (I.ok.hd hc) it a hai its.toArray) he ⟨hit, p⟩ hlt hne (by simp [hne, hea]) fun x' h' tk hx' ho st' hT hsz hk => ?_
    have ex : x' = u := by
      have h1 : its[i]? = some x' := by simpa using hx'
      rw [hu] at h1; cases h1; rfl
    subst ex
    refine ⟨_, rfl, wpAny_letOwnedTupleGo_enum (s := { s with heap := h', toks := tk + 1 }) ho fun h'' he' sb => ?_⟩
    have hT2 : h''.get? s.heap.objs.size = some { cls := .type "tuple", data := .seq #[.int i tk, x'] } := (sb.2 _ (Nat.ne_of_gt hel)).trans hT
    have new : ObjOk X.prog X.w (upd H s.heap.objs.size (.tup [.int (i : Nat), x])) h'' s.heap.objs.size (.tup [.int (i : Nat), x]) :=
      ⟨by show 2 ≤ sizeLine; decide, [.int i tk, x'], .cons ⟨_, rfl⟩ (.cons ru .nil), ⟨_, hT2, rfl, _, rfl⟩⟩
    have I1 : Inv X pins σ (upd H s.heap.objs.size (.tup [.int (i : Nat), x])) { s with heap := h'', toks := tk + 1 } :=
      I.turnedNew (ch := [e, it]) (fun b ob hb q => (sb.2 b (fun z => hb (by simp [z]))).trans (hk b ob (fun z => hb (by simp [z])) (fun z => hb (by simp [z])) q)) hf (Nat.le_refl _) new
    refine ⟨.ref s.heap.objs.size, _, I1, rfl, ⟨_, x, rfl, I.hok.fresh (Nat.le_refl _), rfl, fun ys hy => by rw [I.tuple_inj hy hq]; exact hx⟩, ⟨⟨x', ?_⟩, st'.1.at fun o q => (sb.2 it (Ne.symm hne)).trans q, hne, hea, hai⟩, fun b hb => ?_⟩
    · have e1 : ((i + 1 : Nat) : Int) = (i : Int) + 1 := by omega
      rw [e1]; exact he'
    · have hb' : b < s.heap.objs.size := by
        rcases (by simpa using hb : b = e ∨ b = it) with z | z
        · rw [z]; exact hel
        · rw [z]; exact hil
      rw [upd_ne (Nat.ne_of_lt hb')]
      exact (hf b hb).1
  done := by
    intro X hP hw hK hc i pins s σ H E I hf st hg
    subst hP hw hK
    obtain ⟨⟨old, he⟩, hit, hne, hea, hai⟩ := st
    obtain ⟨xs, hq, hx⟩ := hg
    obtain ⟨its, rv, p, hz⟩ := I.tuple hq
    obtain ⟨f0, f1, f2, f3, f4, f5⟩ := hf it (by simp)
    have hl := rv.length
    have hi : i = its.toArray.size := by simp; omega
    subst hi
    exact wpAny_pyNext_enum_endD (Draws.tuple (A := X.A.in1) (I.ok.hd hc) it a hai its.toArray) he ⟨hit, p⟩ fun h' eb => ⟨rfl, I.turned (t' := s.toks) (fun b o hb q => eb b o hb q) f0 f1 f3 f4 f5⟩
  self := fun A i s Q E st h => by
    obtain ⟨⟨_, he⟩, _⟩ := st
    exact wpAny_pyIter_enum he h
theorem begins_tuple (t : Addr) (items : Array Value) : PySem.Begins (.ref t) { cls := .type "tuple_iterator", data := .fields #[.ref t, .int 0 0] } fun h => h.IsTuple t items where
  iter := fun prog w A E s Q hl h => wpAny_pyIter_tuple hl h
  keeps := fun h h' x hk => x.at fun o e => hk t o e
  free := rfl
/-- a list or a tuple -/
def iEnumA (K : PySem.W.Frag) (ta : TA) : TI := fun σ H R => ta σ H fun vs H1 => ∃ a xs, vs = [.ref a] ∧ ((SqL K H1 a xs ∧ R (Ite K a) H1) ∨ (SqT K H1 a xs ∧ R (IteT K a) H1))
theorem pi_enumA {X : Cx} {e : Expr} {ta : TA} {p pos tpos : Pos} {elts : List Expr} {kk : Nat} (hg : Gl X "enumerate") (hm : X.mg "enumerate" = none) (ha : PA X [e] ta) (hs : starEach [e] X.env = [(false, eval e X.env)] := by rfl) :
    PI X (.Tuple elts kk tpos) (.Call (.Name "enumerate" p) [e] [] pos) (iEnumA X.K ta) := by
  refine ⟨fun pins s σ H R I h => Call_ (ld_blt I hg hm boot_enumerate (PyProof.Rows.callWith_type1 (thn (ha.run pos pins s σ H _ I h) fun us s1 ⟨vs, H1, I1, r1, q1⟩ => ?_) hs rfl))⟩
  obtain ⟨a, xs, rfl, q1⟩ := q1
  cases r1 with
  | cons r rr =>
    cases rr
    cases r
    rcases q1 with ⟨hq, q⟩ | ⟨hq, q⟩
    · obtain ⟨its, rv, p', hz⟩ := I1.list hq
      refine call_enumerate_list p'.isList fun h' en hit hsz hk => wpAny_pyIter_enum en ?_
      have I2 : Inv X pins σ H1 { s1 with heap := h' } := I1.kept (t' := s1.toks) hk
      refine ⟨s1.heap.objs.size + 1, [s1.heap.objs.size + 1, s1.heap.objs.size], _, _, H1, rfl, I2, turn_enum a (s1.heap.objs.size + 1) s1.heap.objs.size, ⟨⟨.none, en⟩, hit, Nat.succ_ne_self _⟩, fun b hb => ?_, q⟩
      have hle : s1.heap.objs.size ≤ b := by
        rcases (by simpa using hb : b = s1.heap.objs.size + 1 ∨ b = s1.heap.objs.size) with z | z
        · rw [z]; exact Nat.le_add_right _ _
        · rw [z]; exact Nat.le_refl _
      exact I1.fpOk hle (I1.hok.fresh hle)
    · obtain ⟨its, rv, p', hz⟩ := I1.tuple hq
      have hal : a < s1.heap.objs.size := by obtain ⟨o, ho, _⟩ := id p'; exact Heap.lt_size ho
      refine enum1_of (begins_tuple a its.toArray) p' fun h' en hit hsz hk => wpAny_pyIter_enum en ?_
      have I2 : Inv X pins σ H1 { s1 with heap := h' } := I1.kept (t' := s1.toks) hk
      refine ⟨s1.heap.objs.size + 1, [s1.heap.objs.size + 1, s1.heap.objs.size], _, _, H1, rfl, I2, turn_enumT a (s1.heap.objs.size + 1) s1.heap.objs.size, ⟨⟨.none, en⟩, ⟨_, hit, rfl, rfl⟩, Nat.succ_ne_self _, Nat.ne_of_gt (Nat.lt_succ_of_lt hal), Nat.ne_of_lt hal⟩, fun b hb => ?_, q⟩
      have hle : s1.heap.objs.size ≤ b := by
        rcases (by simpa using hb : b = s1.heap.objs.size + 1 ∨ b = s1.heap.objs.size) with z | z
        · rw [z]; exact Nat.le_add_right _ _
        · rw [z]; exact Nat.le_refl _
      exact I1.fpOk hle (I1.hok.fresh hle)
end Lc
namespace Lc
open PySem L2

def D.items? : D → Option (List D)
  | .tup xs => some xs
  | .lst xs => some xs
  | .scr ns => some (ns.map D.int)
  | .str z => some (z.cps.toList.map fun c => .str ⟨#[c]⟩)
  | _ => none
def enumD (k : Int) : List D → List D
  | [] => []
  | x :: r => .tup [.int k, x] :: enumD (k + 1) r
def zipD : List D → List D → List D
  | x :: xs, y :: ys => .tup [x, y] :: zipD xs ys
  | _, _ => []
def rangeD (lo : Int) : Nat → List D
  | 0 => []
  | n + 1 => .int lo :: rangeD (lo + 1) n
def eiSeq (t : EE) : EI := fun ρ => (t ρ).bind fun d ρ => Res.of d.items? ρ
def eiEn (t : EE) : EI := fun ρ => (t ρ).bind fun d ρ => Res.of (d.seq?.map (enumD 0)) ρ
def eiZip (ta tb : EE) : EI := fun ρ => (ta ρ).bind fun x ρ => (tb ρ).bind fun y ρ => match x, y with
  | .tup xs, .tup ys => .ok (zipD xs ys) ρ
  | .lst xs, .lst ys => .ok (zipD xs ys) ρ
  | _, _ => .no
def eiR1 (t : EE) : EI := fun ρ => (t ρ).bind fun d ρ => match d with
  | .int j => if -1000000 < j ∧ j < 1000000 then .ok (rangeD 0 j.toNat) ρ else .no
  | _ => .no
def eiR2 (ta tb : EE) : EI := fun ρ => (ta ρ).bind fun x ρ => (tb ρ).bind fun y ρ => match x, y with
  | .int i, .int j => if -1000000 < i ∧ i < 1000000 ∧ -1000000 < j ∧ j < 1000000 then .ok (rangeD i (j - i).toNat) ρ else .no
  | _, _ => .no
theorem rangeD_len (lo : Int) : ∀ n, (rangeD lo n).length = n
  | 0 => rfl
  | n + 1 => by simp [rangeD, rangeD_len (lo + 1) n]
theorem rangeD_get : ∀ {n : Nat} {lo : Int} {i : Nat}, i < n → (rangeD lo n)[i]? = some (.int (lo + i))
  | n + 1, lo, 0, _ => by simp [rangeD]
  | n + 1, lo, i + 1, h => by
    have := rangeD_get (n := n) (lo := lo + 1) (i := i) (by omega)
    simp only [rangeD, List.getElem?_cons_succ, this]
    rw [show lo + 1 + (i : Int) = lo + ((i + 1 : Nat) : Int) by omega]
theorem enumD_len : ∀ (k : Int) (ds : List D), (enumD k ds).length = ds.length
  | _, [] => rfl
  | k, d :: ds => by simp [enumD, enumD_len (k + 1) ds]
theorem enumD_get : ∀ {k : Int} {ds : List D} {i : Nat} {d : D}, ds[i]? = some d → (enumD k ds)[i]? = some (.tup [.int (k + i), d])
  | k, x :: ds, 0, d, h => by simp at h; subst h; simp [enumD]
  | k, x :: ds, i + 1, d, h => by
    have := enumD_get (k := k + 1) (ds := ds) (i := i) (by simpa using h)
    simp only [enumD, List.getElem?_cons_succ, this]
    rw [show k + 1 + (i : Int) = k + ((i + 1 : Nat) : Int) by omega]
theorem zipD_len : ∀ (xs ys : List D), (zipD xs ys).length = min xs.length ys.length
  | [], _ => by simp [zipD]
  | _ :: _, [] => by simp [zipD]
  | x :: xs, y :: ys => by simp [zipD, zipD_len xs ys]
theorem zipD_get : ∀ {xs ys : List D} {i : Nat} {x y : D}, xs[i]? = some x → ys[i]? = some y → (zipD xs ys)[i]? = some (.tup [x, y])
  | a :: xs, b :: ys, 0, x, y, h1, h2 => by simp at h1 h2; subst h1 h2; rfl
  | a :: xs, b :: ys, i + 1, x, y, h1, h2 => by simpa [zipD] using zipD_get (xs := xs) (ys := ys) (by simpa using h1) (by simpa using h2)
section
variable {T : Tx} {F : Fm} {g : Gh} {σ : St} {H : Hp} {ρ : List Sl} {a b : Addr} {ds es : List D}
theorem rIt_tup (r : R T H g.Z (.ref a) (.tup ds)) : rIt T F ds ρ g σ H (Itt T.K a) := by
  have key : ∀ g' H', Stp F g H g' H' → ∃ xs, SqT T.K H' a xs ∧ RA T H' g'.Z xs ds := fun g' H' s => by
    cases R.step s.st r with
    | tup f q => exact ⟨_, f.sq, q⟩
  refine ⟨fun g' H' i s hi => ?_, fun g' H' s => ?_, fun g' H' i x H'' s _ hi y => ?_⟩
  · obtain ⟨xs, h, q⟩ := key g' H' s
    exact ⟨xs, xs[i]'(by rw [q.len]; exact hi), h, List.getElem?_eq_getElem _⟩
  · obtain ⟨xs, h, q⟩ := key g' H' s
    exact ⟨xs, h, by rw [q.len]; exact Nat.le_refl _⟩
  · obtain ⟨xs, h, q⟩ := key g' H' s
    obtain ⟨rfl, y⟩ := y
    obtain ⟨d, hd, rd⟩ := q.getV (y xs h)
    exact ⟨d, hd, .refl _, rd⟩
theorem rIt_lst (key : ∀ g' H', Stp F g H g' H' → ∃ xs, SqL T.K H' a xs ∧ RA T H' g'.Z xs ds) : rIt T F ds ρ g σ H (Itl T.K a) := by
  refine ⟨fun g' H' i s hi => ?_, fun g' H' s => ?_, fun g' H' i x H'' s _ hi y => ?_⟩
  · obtain ⟨xs, h, q⟩ := key g' H' s
    exact ⟨xs, xs[i]'(by rw [q.len]; exact hi), h, List.getElem?_eq_getElem _⟩
  · obtain ⟨xs, h, q⟩ := key g' H' s
    exact ⟨xs, h, by rw [q.len]; exact Nat.le_refl _⟩
  · obtain ⟨xs, h, q⟩ := key g' H' s
    obtain ⟨rfl, y⟩ := y
    obtain ⟨d, hd, rd⟩ := q.getV (y xs h)
    exact ⟨d, hd, .refl _, rd⟩
theorem lstKey (r : R T H g.Z (.ref a) (.lst ds)) : ∀ g' H', Stp F g H g' H' → ∃ xs, SqL T.K H' a xs ∧ RA T H' g'.Z xs ds := fun g' H' s => by
  cases R.step s.st r with
  | lst h _ q => exact ⟨_, .of h, q⟩
theorem tupKey (r : R T H g.Z (.ref a) (.tup ds)) : ∀ g' H', Stp F g H g' H' → ∃ xs, SqT T.K H' a xs ∧ RA T H' g'.Z xs ds := fun g' H' s => by
  cases R.step s.st r with
  | tup f q => exact ⟨_, f.sq, q⟩
theorem scrKey {ns : List Int} (r : R T H g.Z (.ref a) (.scr ns)) : ∀ g' H', Stp F g H g' H' → ∃ xs, SqL T.K H' a xs ∧ RA T H' g'.Z xs (ns.map D.int) := fun g' H' s => by
  cases R.step s.st r with
  | scr f => exact ⟨_, f.sq, RA.ofInts ns⟩
theorem pairR {Z : Zs} {x y : V} {d e : D} {p : Addr} (hp : H p = none) (z : ∀ a, Z a → H a ≠ none) (r1 : R T H Z x d) (r2 : R T H Z y e) : R T (upd H p (.tup [x, y])) Z (.ref p) (.tup [d, e]) := R.newT hp z (.cons r1 (.one r2))
theorem rIt_enum (key : ∀ g' H', Stp F g H g' H' → ∃ xs, SqL T.K H' a xs ∧ RA T H' g'.Z xs ds) : rIt T F (enumD 0 ds) ρ g σ H (Ite T.K a) := by
  refine ⟨fun g' H' i s hi => ?_, fun g' H' s => ?_, fun g' H' i x H'' s hz hi y => ?_⟩
  · rw [enumD_len] at hi
    obtain ⟨xs, h, q⟩ := key g' H' s
    exact ⟨xs, xs[i]'(by rw [q.len]; exact hi), h, List.getElem?_eq_getElem _⟩
  · obtain ⟨xs, h, q⟩ := key g' H' s
    exact ⟨xs, h, by rw [q.len, enumD_len]; exact Nat.le_refl _⟩
  · obtain ⟨xs, h, q⟩ := key g' H' s
    obtain ⟨p, w, rfl, hp, rfl, y⟩ := y
    obtain ⟨d, hd, rd⟩ := q.getV (y xs h)
    exact ⟨_, enumD_get hd, .alloc hp, by rw [Int.zero_add]; exact pairR hp hz (.int _) rd⟩
theorem rIt_enumT (key : ∀ g' H', Stp F g H g' H' → ∃ xs, SqT T.K H' a xs ∧ RA T H' g'.Z xs ds) : rIt T F (enumD 0 ds) ρ g σ H (IteT T.K a) := by
  refine ⟨fun g' H' i s hi => ?_, fun g' H' s => ?_, fun g' H' i x H'' s hz hi y => ?_⟩
  · rw [enumD_len] at hi
    obtain ⟨xs, h, q⟩ := key g' H' s
    exact ⟨xs, xs[i]'(by rw [q.len]; exact hi), h, List.getElem?_eq_getElem _⟩
  · obtain ⟨xs, h, q⟩ := key g' H' s
    exact ⟨xs, h, by rw [q.len, enumD_len]⟩
  · obtain ⟨xs, h, q⟩ := key g' H' s
    obtain ⟨p, w, rfl, hp, rfl, y⟩ := y
    obtain ⟨d, hd, rd⟩ := q.getV (y xs h)
    exact ⟨_, enumD_get hd, .alloc hp, by rw [Int.zero_add]; exact pairR hp hz (.int _) rd⟩
theorem rIt_zip (k1 : ∀ g' H', Stp F g H g' H' → ∃ xs, SqL T.K H' a xs ∧ RA T H' g'.Z xs ds) (k2 : ∀ g' H', Stp F g H g' H' → ∃ xs, SqL T.K H' b xs ∧ RA T H' g'.Z xs es) : rIt T F (zipD ds es) ρ g σ H (Itz T.K a b) := by
  refine ⟨fun g' H' i s hi => ?_, fun g' H' s => ?_, fun g' H' i x H'' s hz hi y => ?_⟩
  · rw [zipD_len] at hi
    obtain ⟨xs, h, q⟩ := k1 g' H' s
    obtain ⟨ys, h', q'⟩ := k2 g' H' s
    exact ⟨xs, ys, xs[i]'(by rw [q.len]; omega), ys[i]'(by rw [q'.len]; omega), h, h', List.getElem?_eq_getElem _, List.getElem?_eq_getElem _⟩
  · obtain ⟨xs, h, q⟩ := k1 g' H' s
    obtain ⟨ys, h', q'⟩ := k2 g' H' s
    exact ⟨xs, ys, h, h', by rw [q.len, q'.len, zipD_len]; omega⟩
  · obtain ⟨xs, h, q⟩ := k1 g' H' s
    obtain ⟨ys, h', q'⟩ := k2 g' H' s
    obtain ⟨p, w, w', rfl, hp, rfl, y1, y2⟩ := y
    obtain ⟨d, hd, rd⟩ := q.getV (y1 xs h)
    obtain ⟨d', hd', rd'⟩ := q'.getV (y2 ys h')
    exact ⟨_, zipD_get hd hd', .alloc hp, pairR hp hz rd rd'⟩
theorem rIt_zipT (k1 : ∀ g' H', Stp F g H g' H' → ∃ xs, SqT T.K H' a xs ∧ RA T H' g'.Z xs ds) (k2 : ∀ g' H', Stp F g H g' H' → ∃ xs, SqT T.K H' b xs ∧ RA T H' g'.Z xs es) : rIt T F (zipD ds es) ρ g σ H (RZ.ItzT T.K a b) := by
  refine ⟨fun g' H' i s hi => ?_, fun g' H' s => ?_, fun g' H' i x H'' s hz hi y => ?_⟩
  · rw [zipD_len] at hi
    obtain ⟨xs, h, q⟩ := k1 g' H' s
    obtain ⟨ys, h', q'⟩ := k2 g' H' s
    exact ⟨xs, ys, xs[i]'(by rw [q.len]; omega), ys[i]'(by rw [q'.len]; omega), h, h', List.getElem?_eq_getElem _, List.getElem?_eq_getElem _⟩
  · obtain ⟨xs, h, q⟩ := k1 g' H' s
    obtain ⟨ys, h', q'⟩ := k2 g' H' s
    exact ⟨xs, ys, h, h', by rw [q.len, q'.len, zipD_len]; omega⟩
  · obtain ⟨xs, h, q⟩ := k1 g' H' s
    obtain ⟨ys, h', q'⟩ := k2 g' H' s
    obtain ⟨p, w, w', rfl, hp, rfl, y1, y2⟩ := y
    obtain ⟨d, hd, rd⟩ := q.getV (y1 xs h)
    obtain ⟨d', hd', rd'⟩ := q'.getV (y2 ys h')
    exact ⟨_, zipD_get hd hd', .alloc hp, pairR hp hz rd rd'⟩
theorem rIt_range {lo : Int} {n : Nat} : rIt T F (rangeD lo n) ρ g σ H (Itr lo n) := by
  refine ⟨fun g' H' i s hi => ?_, fun g' H' s => ?_, fun g' H' i x H'' s hz hi y => ?_⟩
  · rw [rangeD_len] at hi; exact hi
  · show n ≤ _; rw [rangeD_len]; exact Nat.le_refl _
  · rw [rangeD_len] at hi
    obtain ⟨rfl, rfl⟩ := y
    exact ⟨_, rangeD_get hi, .refl _, .int _⟩
theorem rIt_str {z : Str} : rIt T F (z.cps.toList.map fun c => D.str ⟨#[c]⟩) ρ g σ H (Its z) := by
  refine ⟨fun g' H' i s hi => ?_, fun g' H' s => ?_, fun g' H' i x H'' s hz hi y => ?_⟩
  · show i < z.cps.size; simpa using hi
  · show z.cps.size ≤ _; simp
  · obtain ⟨rfl, c, hc, rfl⟩ := y
    exact ⟨.str ⟨#[c]⟩, by simp [hc], .refl _, .str _⟩
end
theorem pi_imp {X : Cx} {tg it : Expr} {w w' : TI} (h : PI X tg it w) (k : ∀ σ H R, w' σ H R → w σ H R) : PI X tg it w' := ⟨fun pins s σ H R I q => h.run pins s σ H R I (k _ _ _ q)⟩
theorem pi_or {X : Cx} {tg it : Expr} {w w' : TI} (h : PI X tg it w) (h' : PI X tg it w') : PI X tg it (fun σ H R => w σ H R ∨ w' σ H R) := ⟨fun pins s σ H R I q => q.elim (h.run pins s σ H R I) (h'.run pins s σ H R I)⟩
section
variable {T : Tx} {F : Fm} {W : WX'} {X : Cx} {tg e e2 : Expr} {p pos tpos : Pos} {elts : List Expr} {kk : Nat}
theorem i_seq {t : EE} (hK : X.K = T.K) (h : SE T F W X e t) (hl : ∀ tl, PE X e tl → PI X tg e (iList X.K tl)) (ht : ∀ tl, PE X e tl → PI X tg e (iTup X.K tl)) (hs : ∀ tl, PE X e tl → PI X tg e (iStr tl)) : SI T F W X tg e (eiSeq t) := by
  refine pi_imp (pi_or (hl _ h) (pi_or (ht _ h) (hs _ h))) fun σ H R' q => ?_
  have q0 := q
  obtain ⟨g, ρ, s, p⟩ := q0
  unfold eiSeq at p
  cases hd : t ρ with
  | no => rw [hd] at p; exact p.elim
  | ex x ρ' => left; rw [hd] at p; exact ⟨g, ρ, s, by rw [hd]; exact p⟩
  | ok d ρ1 =>
    rw [hd] at p
    cases d <;> try exact p.elim
    · -- a text
      rename_i z
      right; right
      refine ⟨g, ρ, s, ?_⟩
      rw [hd]
      intro v g1 H1 s1 e1 r1
      cases r1
      exact ⟨z, rfl, (Po.step (show Po T F W (rIt T F) (.ok _ ρ1) g σ H R' from p) s1) _ g1 H1 .refl e1 rIt_str⟩
    · right; left
      rename_i ds
      refine ⟨g, ρ, s, ?_⟩
      rw [hd]
      intro v g1 H1 s1 e1 r1
      obtain ⟨a, xs, rfl, _, hsq, _⟩ := (Rv.of r1).tup
      exact ⟨a, rfl, ⟨xs, by rw [hK]; exact hsq⟩, by rw [hK]; exact (Po.step (show Po T F W (rIt T F) (.ok _ ρ1) g σ H R' from p) s1) _ g1 H1 .refl e1 (rIt_tup r1)⟩
    · left
      rename_i ds
      refine ⟨g, ρ, s, ?_⟩
      rw [hd]
      intro v g1 H1 s1 e1 r1
      obtain ⟨a, xs, rfl, hsq, _⟩ := (Rv.of r1).lst
      exact ⟨a, rfl, ⟨xs, by rw [hK]; exact .of hsq⟩, by rw [hK]; exact (Po.step (show Po T F W (rIt T F) (.ok _ ρ1) g σ H R' from p) s1) _ g1 H1 .refl e1 (rIt_lst (lstKey r1))⟩
    · left
      rename_i ns
      refine ⟨g, ρ, s, ?_⟩
      rw [hd]
      intro v g1 H1 s1 e1 r1
      obtain ⟨a, rfl, hsq⟩ := (Rv.of r1).scr
      exact ⟨a, rfl, ⟨_, by rw [hK]; exact hsq⟩, by rw [hK]; exact (Po.step (show Po T F W (rIt T F) (.ok _ ρ1) g σ H R' from p) s1) _ g1 H1 .refl e1 (rIt_lst (scrKey r1))⟩
theorem i_en {t : EE} (hK : X.K = T.K) (hg : Gl X "enumerate") (hm : X.mg "enumerate" = none) (h : SE T F W X e t) (hs : starEach [e] X.env = [(false, eval e X.env)] := by rfl) : SI T F W X (.Tuple elts kk tpos) (.Call (.Name "enumerate" p) [e] [] pos) (eiEn t) := by
  refine pi_imp (pi_enumA hg hm (pa_cons h pa_nil hs) hs) fun σ H R' q => den.bind q fun d ρ1 g0 H0 g1 H1 v s1 e1 r1 p1 => ?_
  obtain ⟨ds, hd, p2⟩ := Po.of p1
  obtain ⟨es, he, hes⟩ := Option.map_eq_some_iff.mp hd
  clear hd
  subst hes
  cases d <;> simp only [D.seq?, reduceCtorEq, Option.some.injEq] at he
  · subst he
    obtain ⟨a, xs, rfl, _, hsq, _⟩ := (Rv.of r1).tup
    exact ⟨a, xs, rfl, .inr ⟨by rw [hK]; exact hsq, by rw [hK]; exact p2 _ g1 H1 .refl e1 (rIt_enumT (tupKey r1))⟩⟩
  · subst he
    obtain ⟨a, xs, rfl, hsq, _⟩ := (Rv.of r1).lst
    exact ⟨a, xs, rfl, .inl ⟨by rw [hK]; exact .of hsq, by rw [hK]; exact p2 _ g1 H1 .refl e1 (rIt_enum (lstKey r1))⟩⟩
theorem i_zip {ta tb : EE} (hK : X.K = T.K) (hg : Gl X "zip") (hm : X.mg "zip" = none) (ha : SE T F W X e ta) (hb : SE T F W X e2 tb) (hs : starEach [e, e2] X.env = (false, eval e X.env) :: starEach [e2] X.env := by rfl)
    (hs2 : starEach [e2] X.env = (false, eval e2 X.env) :: starEach [] X.env := by rfl) (hpl : (backTo pos (starEach [e2] X.env)).any (·.1) = false := by rfl) : SI T F W X (.Tuple elts kk tpos) (.Call (.Name "zip" p) [e, e2] [] pos) (eiZip ta tb) := by
  refine pi_imp (RZ.pi_zipA hg hm (pa_cons ha (pa_cons hb pa_nil hs2) hs) hs hpl) fun σ H R' q => den.bind q fun d ρ1 g0 H0 g1 H1 v s1 e1 r1 p1 => ?_
  refine ⟨g1, ρ1, e1, Po.bind p1 fun d2 ρ2 g2 H2 v2 s2 e2 r2 p2 => ?_⟩
  have r1' := R.step s2.st r1
  cases d <;> try exact p2.elim
  · cases d2 <;> try exact p2.elim
    obtain ⟨a, xs, rfl, _, hsq, _⟩ := (Rv.of r1').tup
    obtain ⟨b, ys, rfl, _, hsq2, _⟩ := (Rv.of r2).tup
    exact ⟨a, b, xs, ys, rfl, .inr ⟨by rw [hK]; exact hsq, by rw [hK]; exact hsq2, by rw [hK]; exact p2 _ g2 H2 .refl e2 (rIt_zipT (tupKey r1') (tupKey r2))⟩⟩
  · cases d2 <;> try exact p2.elim
    obtain ⟨a, xs, rfl, hsq, _⟩ := (Rv.of r1').lst
    obtain ⟨b, ys, rfl, hsq2, _⟩ := (Rv.of r2).lst
    exact ⟨a, b, xs, ys, rfl, .inl ⟨by rw [hK]; exact .of hsq, by rw [hK]; exact .of hsq2, by rw [hK]; exact p2 _ g2 H2 .refl e2 (rIt_zip (lstKey r1') (lstKey r2))⟩⟩
theorem i_r1 {t : EE} (hg : Gl X "range") (hm : X.mg "range" = none) (h : SE T F W X e t) (hs : starEach [e] X.env = [(false, eval e X.env)] := by rfl) : SI T F W X tg (.Call (.Name "range" p) [e] [] pos) (eiR1 t) := by
  refine pi_imp (pi_range1 hg hm (pa_cons h pa_nil hs) hs) fun σ H R' q => den.bind q fun d ρ1 g0 H0 g1 H1 v s1 e1 r1 p1 => ?_
  cases d <;> try exact p1.elim
  rename_i j
  cases r1
  dsimp only at p1
  split at p1
  · rename_i hh
    exact ⟨j, rfl, by omega, by omega, p1 _ g1 H1 .refl e1 rIt_range⟩
  · exact p1.elim
theorem i_r2 {ta tb : EE} (hg : Gl X "range") (hm : X.mg "range" = none) (ha : SE T F W X e ta) (hb : SE T F W X e2 tb) (hs : starEach [e, e2] X.env = [(false, eval e X.env), (false, eval e2 X.env)] := by rfl) (hs2 : starEach [e2] X.env = [(false, eval e2 X.env)] := by rfl) :
    SI T F W X tg (.Call (.Name "range" p) [e, e2] [] pos) (eiR2 ta tb) := by
  refine pi_imp (pi_range2 hg hm (pa_cons ha (pa_cons hb pa_nil hs2) (by rw [hs, hs2])) hs hs2) fun σ H R' q => den.bind q fun d ρ1 g0 H0 g1 H1 v s1 e1 r1 p1 => ?_
  refine ⟨g1, ρ1, e1, Po.bind p1 fun d2 ρ2 g2 H2 v2 s2 e2 r2 p2 => ?_⟩
  cases d <;> try exact p2.elim
  cases d2 <;> try exact p2.elim
  rename_i i j
  cases r1; cases r2
  dsimp only at p2
  split at p2
  · rename_i hh
    exact ⟨i, j, rfl, ⟨by omega, by omega, by omega, by omega⟩, p2 _ g2 H2 .refl e2 rIt_range⟩
  · exact p2.elim
end
end Lc
namespace Lc
open PySem L2

def tFrz (t : TE) : TE := fun σ H Q => t σ H fun x H1 => ∃ d, x = .ref d ∧ ((∃ o u, H1 d = some (.frz o u) ∧ Q x H1) ∨ ∃ u, H1 d = some u ∧ Mut (some u) ∧ ∀ od, Q x (upd H1 d (.frz od u)))
theorem pe_frz {X : Cx} {e : Expr} {t : TE} (h : PE X e t) : PE X e (tFrz t) := by
  refine ⟨fun pins s σ H Q I hw => thn (h.run pins s σ H _ I hw) ?_⟩
  rintro v s1 ⟨x, H1, I1, r, d, rfl, ⟨o, u, hd, q⟩ | ⟨u, hd, mu, q⟩⟩
  · exact ⟨_, H1, I1, r, q⟩
  · obtain ⟨od, I2⟩ := I1.lock hd mu
    exact ⟨_, _, I2, r, q od⟩
section
variable {T : Tx} {F : Fm} {g : Gh} {σ : St} {H : Hp} {ρ : List Sl}
theorem SR.lock (s : SR T F g ρ σ H) {d : Addr} {u : HO} (h : H d = some u) (dc : IsDc u) (nz : ¬ g.Z d) (od : Obj) : Stp F g H g (upd H d (.frz od u)) ∧ SR T F g ρ σ (upd H d (.frz od u)) := by
  have st : Step H g.Z (upd H d (.frz od u)) g.Z := by
    refine ⟨fun b o e _ k => ?_, fun b z => .inl z, fun b o e => ?_, fun b ps e => ?_, fun b o w e => ?_, fun b w _ e _ => ?_⟩
    · by_cases q : b = d
      · subst q; rw [h] at e; cases e; exact absurd dc k.2.2
      · rw [upd_ne q]; exact e
    · by_cases q : b = d
      · subst q; exact ⟨_, upd_same⟩
      · exact ⟨o, by rw [upd_ne q]; exact e⟩
    · by_cases q : b = d
      · subst q; rw [h] at e; cases e; rcases dc with ⟨_, z⟩ | ⟨_, z⟩ <;> cases z
      · exact ⟨ps, by rw [upd_ne q]; exact e⟩
    · by_cases q : b = d
      · subst q; rw [h] at e; cases e; rcases dc with ⟨_, z⟩ | ⟨_, z⟩ <;> cases z
      · rw [upd_ne q]; exact e
    · by_cases q : b = d
      · subst q
        rcases e with e | ⟨o, e⟩
        · rw [h] at e; cases e; exact .inr ⟨od, upd_same⟩
        · rw [h] at e; cases e; rcases dc with ⟨_, z⟩ | ⟨_, z⟩ <;> cases z
      · unfold Rd at e ⊢; rw [upd_ne q]; exact e
  refine ⟨⟨st, fun a y => upd_ne fun e => nz (by rw [← e]; exact s.yz a y)⟩, ⟨s.len, fun i e q => ?_, fun i e q => ?_, s.dj, s.yz, fun a z => ?_, s.pin⟩⟩
  · obtain ⟨v, hv, r⟩ := s.fz i e q
    exact ⟨v, hv, R.step st r⟩
  · obtain ⟨v, hv, o, hz⟩ := s.ow i e q
    exact ⟨v, hv, o.step st (fun a ha => upd_ne fun e => nz (by rw [← e]; exact (hz a ha).1)), hz⟩
  · rw [upd_ne fun e => nz (by rw [← e]; exact z)]; exact s.zl a z
end
def eiItems (t : EE) : EI := fun ρ => (t ρ).bind fun d ρ => match d with
  | .dk kvs => .ok (kvs.map fun kv => .tup [match kv.1 with | .inl i => .int i | .inr x => .str x, kv.2]) ρ
  | _ => .no
def dKey : Key → D
  | .inl i => .int i
  | .inr x => .str x
def eiVals (t : EE) : EI := fun ρ => (t ρ).bind fun d ρ => match d with
  | .dk kvs => .ok (kvs.map (·.2)) ρ
  | _ => .no
def eiKeys (t : EE) : EI := fun ρ => (t ρ).bind fun d ρ => match d with
  | .dk kvs => .ok (kvs.map fun kv => dKey kv.1) ρ
  | _ => .no
section
variable {T : Tx} {F : Fm} {W : WX'} {X : Cx} {tg e : Expr} {p pos tpos apos cpos : Pos} {elts : List Expr} {kk : Nat}
theorem R.kV {H : Hp} {Z : Zs} (k : Key) : R T H Z (kV k) (dKey k) := by
  cases k
  · exact .int _
  · exact .str _
theorem kvGet {H : Hp} {Z : Zs} : ∀ {ws : List (Key × V)} {kvs : List (Key × D)}, ws.map (·.1) = kvs.map (·.1) → RA T H Z (ws.map (·.2)) (kvs.map (·.2)) → ∀ {i : Nat} {k : Key} {v : V}, ws[i]? = some (k, v) → ∃ d, kvs[i]? = some (k, d) ∧ R T H Z v d
  | [], [], _, _, i, k, v, h => by simp at h
  | [], _ :: _, e, _, _, _, _, _ => by cases e
  | _ :: _, [], e, _, _, _, _, _ => by cases e
  | (k1, v1) :: ws, (k2, d1) :: kvs, e, .cons r t, i, k, v, h => by
    simp only [List.map_cons, List.cons.injEq] at e
    obtain ⟨rfl, e⟩ := e
    cases i with
    | zero => simp at h; obtain ⟨rfl, rfl⟩ := h; exact ⟨d1, rfl, r⟩
    | succ i => simpa using kvGet e t (by simpa using h)
/-- a held dict: what its walks give -/
theorem held {g : Gh} {σ : St} {H : Hp} {ρ : List Sl} {d : Addr} {od : Obj} {ws : List (Key × V)} {kvs : List (Key × D)} (e : SR T F g ρ σ H) (h : H d = some (.frz od (.dK ws))) (ek : ws.map (·.1) = kvs.map (·.1)) (ra : RA T H g.Z (ws.map (·.2)) (kvs.map (·.2))) :
    rIt T F (kvs.map fun kv => .tup [dKey kv.1, kv.2]) ρ g σ H (Iti d od ws) ∧ rIt T F (kvs.map (·.2)) ρ g σ H (Itd d od ws) ∧ rIt T F (kvs.map fun kv => dKey kv.1) ρ g σ H (Itk d od ws) := by
  have hl : ws.length = kvs.length := by simpa using congrArg List.length ek
  have key : ∀ g' H', Stp F g H g' H' → H' d = some (.frz od (.dK ws)) ∧ RA T H' g'.Z (ws.map (·.2)) (kvs.map (·.2)) := fun g' H' s => ⟨s.st.fr _ _ _ h, RA.step s.st ra⟩
  refine ⟨⟨fun g' H' i s hi => ?_, fun g' H' s => ?_, fun g' H' i x H'' s hz hi y => ?_⟩, ⟨fun g' H' i s hi => ?_, fun g' H' s => ?_, fun g' H' i x H'' s hz hi y => ?_⟩, ⟨fun g' H' i s hi => ?_, fun g' H' s => ?_, fun g' H' i x H'' s hz hi y => ?_⟩⟩
  · exact ⟨(key g' H' s).1, by rw [hl]; simpa using hi⟩
  · exact ⟨(key g' H' s).1, by simp [hl]⟩
  · obtain ⟨p, k, v, hv, rfl, hp, rfl⟩ := y
    obtain ⟨d', hd', rd⟩ := kvGet ek (key g' H' s).2 hv
    exact ⟨_, by simp [hd'], .alloc hp, pairR hp hz (R.kV k) rd⟩
  · exact ⟨(key g' H' s).1, by rw [hl]; simpa using hi⟩
  · exact ⟨(key g' H' s).1, by simp [hl]⟩
  · obtain ⟨rfl, k, hv⟩ := y
    obtain ⟨d', hd', rd⟩ := kvGet ek (key g' _ s).2 hv
    exact ⟨d', by simp [hd'], .refl _, rd⟩
  · exact ⟨(key g' H' s).1, by rw [hl]; simpa using hi⟩
  · exact ⟨(key g' H' s).1, by simp [hl]⟩
  · obtain ⟨rfl, k, v, hv, rfl⟩ := y
    obtain ⟨d', hd', rd⟩ := kvGet ek (key g' _ s).2 hv
    exact ⟨dKey k, by simp [hd'], .refl _, R.kV k⟩
/-- a dict, held -/
theorem frz_den {t : EE} {β : Type} {σ : St} {H : Hp} {Q : V → Hp → Prop} {γ : Type} {rel : γ → List Sl → Gh → St → Hp → β → Prop} {k : D → List Sl → Res γ} {Q2 : β → Hp → Prop} (q : den T F W rel (fun ρ => (t ρ).bind k) σ H Q2)
    (hk : ∀ (d : Addr) (od : Obj) (ws : List (Key × V)) (kvs : List (Key × D)) (g : Gh) (ρ : List Sl) (H1 : Hp), SR T F g ρ σ H1 → H1 d = some (.frz od (.dK ws)) → ws.map (·.1) = kvs.map (·.1) → RA T H1 g.Z (ws.map (·.2)) (kvs.map (·.2)) → Po T F W rel (k (.dk kvs) ρ) g σ H1 Q2 → Q (.ref d) H1)
    (hno : ∀ d ρ, (∀ kvs, d ≠ .dk kvs) → k d ρ = .no) : tFrz (den T F W (rV T) t) σ H Q := by
  refine den.bind q fun d ρ1 g0 H0 g1 H1 v s1 e1 r1 p1 => ?_
  cases d with
  | dk kvs =>
    cases r1 with
    | dk h nz ek ra =>
      rename_i a ws
      refine ⟨a, rfl, ?_⟩
      rcases h with h | ⟨o, h⟩
      · right
        refine ⟨.dK ws, h, trivial, fun od => ?_⟩
        obtain ⟨s2, e2⟩ := e1.lock h (.inl ⟨ws, rfl⟩) nz od
        exact hk a od ws kvs g1 ρ1 _ e2 upd_same ek (RA.step s2.st ra) (p1.step s2)
      · left
        exact ⟨o, _, h, hk a o ws kvs g1 ρ1 H1 e1 h ek ra p1⟩
  | _ => rw [hno _ _ (fun kvs => by simp)] at p1; exact p1.elim
theorem i_items {t : EE} (h : SE T F W X e t) (hbase : attributeBase e "items" X.env (eval e X.env) = eval e X.env := by rfl) (hline : (apos.endLine == cpos.line) = true := by rfl) :
    SI T F W X (.Tuple elts kk tpos) (.Call (.Attribute e "items" apos) [] [] cpos) (eiItems t) := by
  refine pi_imp (pi_items (pe_frz h) hbase hline) fun σ H R' q => ?_
  refine frz_den (W := W) q (fun d od ws kvs g ρ H1 s hd ek ra p => ?_) (fun d ρ n => ?_)
  · refine ⟨d, od, ws, rfl, hd, p _ g H1 .refl s ?_⟩
    have := (held s hd ek ra).1
    have e2 : (kvs.map fun kv => D.tup [match kv.1 with | .inl i => .int i | .inr x => .str x, kv.2]) = kvs.map fun kv => .tup [dKey kv.1, kv.2] := by
      refine List.map_congr_left fun kv _ => ?_
      cases kv.1 <;> rfl
    rw [e2]; exact this
  · cases d with
    | dk kvs => exact absurd rfl (n kvs)
    | _ => rfl
theorem i_vals {t : EE} (h : SE T F W X e t) (hbase : attributeBase e "values" X.env (eval e X.env) = eval e X.env := by rfl) (hline : (apos.endLine == cpos.line) = true := by rfl) :
    SI T F W X tg (.Call (.Attribute e "values" apos) [] [] cpos) (eiVals t) := by
  refine pi_imp (pi_values (pe_frz h) hbase hline) fun σ H R' q => ?_
  refine frz_den (W := W) q (fun d od ws kvs g ρ H1 s hd ek ra p => ⟨d, od, ws, rfl, hd, p _ g H1 .refl s (held s hd ek ra).2.1⟩) (fun d ρ n => ?_)
  cases d with
  | dk kvs => exact absurd rfl (n kvs)
  | _ => rfl
theorem i_keys {t : EE} (h : SE T F W X e t) (mk : ∀ td, PE X e td → PI X tg e (iKeys td)) : SI T F W X tg e (eiKeys t) := by
  refine pi_imp (mk _ (pe_frz h)) fun σ H R' q => ?_
  refine frz_den (W := W) q (fun d od ws kvs g ρ H1 s hd ek ra p => ⟨d, od, rfl, .inl ⟨ws, hd, p _ g H1 .refl s (held s hd ek ra).2.2⟩⟩) (fun d ρ n => ?_)
  cases d with
  | dk kvs => exact absurd rfl (n kvs)
  | _ => rfl
end
def eD0 : EE := fun ρ => .ok (.dk []) ρ
def eD0T : EE := fun ρ => .ok (.dt []) ρ
def eD1 (tk tv : EE) : EE := fun ρ => (tk ρ).bind fun k ρ => (tv ρ).bind fun v ρ => match keyOf k with
  | some k => .ok (.dk [(k, v)]) ρ
  | none => .no
section
variable {T : Tx} {F : Fm} {W : WX'} {X : Cx} {k v : Expr} {pos : Pos}
theorem n_d0 : SN T F W X (.Dict [] [] pos) eD0 := by
  refine pe_imp pe_dnewK fun σ H Q q p hp => ?_
  obtain ⟨g, ρ, s, q⟩ := q
  obtain ⟨a1, a2, a3, a4⟩ := s.more (fp := [p]) (.alloc (o := .dK []) hp) (fun a ha => by cases List.mem_singleton.mp ha; exact ⟨hp, _, upd_same⟩)
  exact q _ (g.more [p]) _ a1 a2 ⟨[p], .dk upd_same rfl .nil, a3, a4⟩
theorem n_d0T : SN T F W X (.Dict [] [] pos) eD0T := by
  refine pe_imp pe_dnewT fun σ H Q q p hp => ?_
  obtain ⟨g, ρ, s, q⟩ := q
  obtain ⟨a1, a2, a3, a4⟩ := s.more (fp := [p]) (.alloc (o := .dT []) hp) (fun a ha => by cases List.mem_singleton.mp ha; exact ⟨hp, _, upd_same⟩)
  exact q _ (g.more [p]) _ a1 a2 ⟨[p], .dt upd_same rfl .nil, a3, a4⟩
/-- out of a frame that keeps one thing more -/
theorem SR.ofBlk0 {g g0 : Gh} {ρ ρ0 : List Sl} {σ : St} {H H0 : Hp} {p : Addr} (s0 : SR T F g0 ρ0 σ H0) (s : SR T (F.blk [] p) g ρ σ H) : SR T F g ρ σ H ∧ ∀ (i : Nat) (e : D), ρ[i]? = some (Sl.ow e) → ∀ a ∈ g.fp i, a ≠ p :=
  ⟨⟨s.len, s.fz, fun i d q => by
    obtain ⟨v, hv, o, hz⟩ := s.ow i d q
    exact ⟨v, hv, o, fun a ha => ⟨(hz a ha).1, fun y => (hz a ha).2 (.inl y)⟩⟩, s.dj, fun a y => s.yz a (.inl y), s.zl, s0.pin⟩, fun i e q a ha => by
    obtain ⟨v, hv, o, hz⟩ := s.ow i e q
    exact fun e => (hz a ha).2 (.inr e)⟩
theorem n_d1 {tk tv : EE} (hk : ∀ D, SE T (F.blk [] D) W X k tk) (hv : ∀ D, SE T (F.blk [] D) W X v tv) : SN T F W X (.Dict [some k] [v] pos) (eD1 tk tv) := by
  refine pe_imp (pe_disp (pps_cons (pe_any hk) (pe_any hv) pps_nil) rfl rfl (by simp) (by simp)) fun σ H Q q p hp => ?_
  obtain ⟨g, ρ, s, q⟩ := q
  obtain ⟨a1, a2, a3, a4⟩ := s.more (fp := [p]) (.alloc (o := .dK []) hp) (fun a ha => by cases List.mem_singleton.mp ha; exact ⟨hp, _, upd_same⟩)
  have hz := (a3 p (by simp)).1
  have hy := (a3 p (by simp)).2
  have b := a2.toBlk (ws := []) hz fun i e q a ha e2 => a4 i e q a ha (by simp [e2])
  refine ⟨p, g.more [p], ρ, b, ?_⟩
  cases h1 : tk ρ with
  | no => unfold eD1 at q; rw [h1] at q; exact q.elim
  | ex x ρ' =>
    unfold eD1 at q; rw [h1] at q
    exact fun cls d g' H' s' e' r' => q cls d g' H' (a1.trans s'.ofBlk) (SR.ofBlk0 s e').1 r'
  | ok kd ρ1 =>
    unfold eD1 at q; rw [h1] at q
    intro x g1 H1 s1 e1 r1
    refine ⟨p, g1, ρ1, e1, ?_⟩
    have q : Po T F W (rF T F) ((tv ρ1).bind fun v ρ => match keyOf kd with
      | some k => .ok (.dk [(k, v)]) ρ
      | none => .no) g σ H Q := q
    cases h2 : tv ρ1 with
    | no => rw [h2] at q; exact q.elim
    | ex x ρ' =>
      rw [h2] at q
      exact fun cls d g' H' s' e' r' => q cls d g' H' ((a1.trans s1.ofBlk).trans s'.ofBlk) (SR.ofBlk0 s e').1 r'
    | ok vd ρ2 =>
      rw [h2] at q
      intro y g2 H2 s2 e2 r2
      have hp2 : H2 p = some (.dK []) := (s2.pr p (.inr rfl)).trans ((s1.pr p (.inr rfl)).trans upd_same)
      refine ⟨hp2, ?_⟩
      cases hk2 : keyOf kd with
      | none => simp only [Res.bind, hk2] at q; exact q.elim
      | some kk =>
        simp only [Res.bind, hk2] at q
        have := keyOf_rel (.inl r1) hk2
        subst this
        refine ⟨[(kk, y)], rfl, by simp, ?_⟩
        have hz2 : g2.Z p := e2.yz p (.inr rfl)
        obtain ⟨w1, w2, w3⟩ := e2.writeD (o' := .dK [(kk, y)]) hz2 hy hp2 (fun _ h => (nomatch h)) (fun _ _ h => (nomatch h))
        obtain ⟨c1, c2⟩ := SR.ofBlk0 s w2
        have e3 : mergeK [] [(kk, y)] = [(kk, y)] := rfl
        rw [e3]
        refine q _ g2 _ (((a1.trans s1.ofBlk).trans s2.ofBlk).trans w1) c1 ⟨[p], .dk upd_same rfl (.one (R.step w3 r2)), fun a ha => ?_, fun i e q a ha => ?_⟩
        · cases List.mem_singleton.mp ha; exact ⟨hz2, hy⟩
        · simpa using c2 i e q a ha
end
end Lc
namespace Lc
open PySem L2

def dcGo (ws : List Nat) (set : GT) (cond : EB) (ke ve : EE) : List D → List Sl → List (Key × D) → Res (List (Key × D))
  | [], ρ, acc => .ok acc ρ
  | d :: r, ρ, acc => match set d (wipeE ρ ws) with
    | none => .no
    | some ρ1 => match cond ρ1 with
      | .ok true ρ2 => (match ke ρ2 with
        | .ok k ρ3 => (match ve ρ3 with
          | .ok y ρ4 => (match keyOf k with
            | some k => if acc.length < LIM then dcGo ws set cond ke ve r ρ4 (kput acc k y) else .no
            | none => .no)
          | _ => .no)
        | _ => .no)
      | .ok false ρ2 => dcGo ws set cond ke ve r ρ2 acc
      | _ => .no
def eDc (ws : List Nat) (it : EI) (set : GT) (cond : EB) (ke ve : EE) : EE := fun ρ => (it ρ).bind fun ds ρ0 => if noOw ρ0 ws then (match dcGo ws set cond ke ve ds ρ0 [] with
  | .ok ys ρ1 => .ok (.dk ys) (backE ρ0 ρ1 ws)
  | _ => .no) else .no
section
variable {T : Tx} {F : Fm} {W : WX'} {X : Cx} {tg iter kx vx : Expr} {ifs : List Expr} {scope : Scope} {own : List (Str × Nat)} {pos : Pos} {set : GT} {ti : EI} {tc : EB} {tk te : EE} {tv : List Nat}
theorem dc_den {ws : List Nat} (hv : ∀ j, j ∈ tv → j ∈ ws) {σ : St} {H : Hp} {Q : VK} (q : den T F W (rF T F) (eDc ws ti set tc tk te) σ H Q) :
    tDc (den T F W (rIt T F) ti) (fun v σ H Q => ∃ D, denG T (F.blk ws D) tv set v σ H Q) (fun σ H Q => ∃ D, den T (F.blk ws D) noW rB tc σ H Q) (fun σ H Q => ∃ D, den T (F.blk ws D) noW (rV T) tk σ H Q) (fun σ H Q => ∃ D, den T (F.blk ws D) noW (rV T) te σ H Q) ws σ H Q := by
  refine den.bind q fun ds ρ0 g0 H0 g1 H1 J s1 e1 r1 p1 => ?_
  intro Dl hD
  split at p1
  · rename_i hno
    split at p1
    · rename_i ys ρf hres
      obtain ⟨a1, a2, a3, a4⟩ := e1.more (fp := [Dl]) (.alloc (o := .dK []) hD) (fun a ha => by cases List.mem_singleton.mp ha; exact ⟨hD, _, upd_same⟩)
      have hzD := (a3 Dl (by simp)).1
      have hyD := (a3 Dl (by simp)).2
      let P : Nat → Hp → Prop := fun i H => ∃ g ρ accV acc, Stp F g1 H1 g H ∧ SR T (F.blk ws Dl) g (wipeE ρ ws) (wipe σ ws) H ∧ g.Z Dl ∧ H Dl = some (.dK accV) ∧ accV.map (·.1) = acc.map (·.1) ∧ RA T H g.Z (accV.map (·.2)) (acc.map (·.2)) ∧ dcGo ws set tc tk te (ds.drop i) ρ acc = .ok ys ρf
      have p0 : P 0 (upd H1 Dl (.dK [])) := ⟨g1.more [Dl], ρ0, [], [], a1, (a2.toBlk hzD fun i e q a ha e2 => a4 i e q a ha (by simp [e2])).wipeB, hzD, upd_same, rfl, .nil, hres⟩
      refine ⟨fun i m H => m = ds.length - i ∧ i ≤ ds.length ∧ P i H, ⟨ds.length, rfl, Nat.zero_le _, p0⟩, ?_⟩
      rintro i m H ⟨rfl, hi, g, ρ, accV, acc, st, e, hz, hH, ek, ra, hgo⟩
      rcases Nat.lt_or_ge i ds.length with hl | hl
      · right
        refine ⟨r1.1 g H i st hl, P (i + 1), fun H' h => ⟨ds.length - (i + 1), by omega, rfl, hl, h⟩, fun x H' hy => ?_⟩
        obtain ⟨d, hd, gr, r⟩ := r1.2.2 g H i x H' st e.zl hl hy
        have hdr : ds.drop i = d :: ds.drop (i + 1) := by
          rw [List.drop_eq_getElem_cons hl]
          rw [List.getElem?_eq_getElem hl] at hd
          cases hd; rfl
        rw [hdr] at hgo
        simp only [dcGo] at hgo
        have e' := e.gr gr
        have st' : Stp F g1 H1 g H' := st.trans (Stp.gr gr e).ofBlk
        have ra' := RA.step gr.step (Z := g.Z) (T := T) ra
        cases hset : set d (wipeE ρ ws) with
        | none => rw [hset] at hgo; cases hgo
        | some ρ1 =>
          rw [hset] at hgo
          refine ⟨Dl, g, _, d, ρ1, e', r, hset, fun σ2 e2 k2 => ?_⟩
          have hw : wipe σ2 ws = wipe σ ws := by
            rw [← wipe_wipe σ ws]
            exact wipe_eq k2.1 fun j hj => k2.2 j fun h => hj (hv j h)
          refine ⟨hw, Dl, g, ρ1, e2, ?_⟩
          simp only at hgo
          cases hc : tc ρ1 with
          | ex => rw [hc] at hgo; cases hgo
          | no => rw [hc] at hgo; cases hgo
          | ok b ρ2 =>
            rw [hc] at hgo
            intro b' g3 H3 s3 e3 hb
            cases hb
            have hz3 : H3 Dl = some (.dK accV) := (s3.pr Dl (.inr rfl)).trans (gr _ _ hH)
            have st3 := st'.trans s3.ofBlk
            have ra3 := RA.step s3.st ra'
            have hzz3 : g3.Z Dl := e3.yz Dl (.inr rfl)
            cases b with
            | false =>
              simp only at hgo
              refine ⟨g3, ρ2, accV, acc, st3, ?_, hzz3, hz3, ek, ra3, hgo⟩
              have := e3.wipeB; rw [hw] at this; exact this
            | true =>
              simp only at hgo
              rw [if_pos rfl]
              refine ⟨Dl, g3, ρ2, e3, ?_⟩
              cases hk : tk ρ2 with
              | ex => rw [hk] at hgo; cases hgo
              | no => rw [hk] at hgo; cases hgo
              | ok kd ρ3 =>
                rw [hk] at hgo
                simp only at hgo
                intro kv g4 H4 s4 e4 rk
                have hz4 : H4 Dl = some (.dK accV) := (s4.pr Dl (.inr rfl)).trans hz3
                have st4 := st3.trans s4.ofBlk
                have ra4 := RA.step s4.st ra3
                refine ⟨Dl, g4, ρ3, e4, ?_⟩
                cases he : te ρ3 with
                | ex => rw [he] at hgo; cases hgo
                | no => rw [he] at hgo; cases hgo
                | ok y ρ4 =>
                  rw [he] at hgo
                  simp only at hgo
                  intro v g5 H5 s5 e5 rv
                  have hz5 : H5 Dl = some (.dK accV) := (s5.pr Dl (.inr rfl)).trans hz4
                  have st5 := st4.trans s5.ofBlk
                  have ra5 := RA.step s5.st ra4
                  have hzz5 : g5.Z Dl := e5.yz Dl (.inr rfl)
                  cases hkk : keyOf kd with
                  | none => rw [hkk] at hgo; cases hgo
                  | some kk =>
                    rw [hkk] at hgo
                    simp only at hgo
                    split at hgo
                    · rename_i hlt
                      have := keyOf_rel (.inl rk) hkk
                      subst this
                      obtain ⟨w1, w2, w3⟩ := e5.writeD (o' := .dK (putK accV kk v)) hzz5 hyD hz5 (fun _ h => (nomatch h)) (fun _ _ h => (nomatch h))
                      obtain ⟨b1, b2⟩ := kput_rel kk ek (RA.step w3 ra5) (R.step w3 rv)
                      have el := congrArg List.length ek
                      rw [List.length_map, List.length_map] at el
                      refine ⟨accV, kk, rfl, hz5, by rw [el]; exact Nat.lt_of_lt_of_le hlt (by decide), g5, ρ4, _, _, st5.trans w1, ?_, hzz5, upd_same, b1, b2, hgo⟩
                      have := w2.wipeB; rw [hw] at this; exact this
                    · cases hgo
      · left
        have hin : i = ds.length := Nat.le_antisymm hi hl
        subst hin
        rw [List.drop_length] at hgo
        cases hgo
        obtain ⟨b1, b2⟩ := SR.ofBlk e1 st e hno
        refine ⟨r1.2.1 g H st, p1 _ g H st b1 ⟨[Dl], .dk hH ek ra, fun a ha => ?_, fun i e q a ha => ?_⟩⟩
        · cases List.mem_singleton.mp ha; exact ⟨hz, hyD⟩
        · simpa using b2 i e q a ha
    · exact p1.elim
  · exact p1.elim
theorem n_dc (own : List (Str × Nat)) (hc : X.calm = true) (hN : X.N.Nodup) (hi : SI T F W X tg iter ti) (ok : BlkOk X.N X.env.scope scope own) (hv : ∀ j, j ∈ tv → j ∈ own.map (·.2))
    (hg : ∀ D, Blk X scope fun Y => PG Y tg (denG T (F.blk (own.map (·.2)) D) tv set)) (ht : ∀ D, Blk X scope fun Y => STs T (F.blk (own.map (·.2)) D) noW Y ifs tc)
    (hk : ∀ D, Blk X scope fun Y => SE T (F.blk (own.map (·.2)) D) noW Y kx tk) (he : ∀ D, Blk X scope fun Y => SE T (F.blk (own.map (·.2)) D) noW Y vx te)
    (hs : ∀ x, foldedSetIterable iter X.env x = pure x := by intro _; rfl) : SN T F W X (.DictComp kx vx [⟨tg, iter, ifs, 0⟩] scope pos) (eDc (own.map (·.2)) ti set tc tk te) :=
  pe_imp (pe_dc hc hN hi ok (fun s H C cl fp => pg_any fun D => hg D s H C cl fp) (fun s H C cl fp => pts_any fun D => ht D s H C cl fp) (fun s H C cl fp => pe_any fun D => hk D s H C cl fp) (fun s H C cl fp => pe_any fun D => he D s H C cl fp) hs) fun σ H Q q => dc_den hv q
/-- a dict comprehension that is stored on its own line -/
theorem ps_setDc {i : Nat} {y : Str} {py spos : Pos} {wi : TI} {gg : TG} {tt : TT} {tkk tvv : TE} (hc : X.calm = true) (hN : X.N.Nodup) (hy : X.N[i]? = some y) (hyl : X.env.scope.names.lookup y = some .local)
    (hsw : swapsWith (.DictComp kx vx [⟨tg, iter, ifs, 0⟩] scope pos) (some (.Name y py)) spos.line X.env = pure true) (hi : PI X tg iter wi) (ok : BlkOk X.N X.env.scope scope own)
    (hg : Blk X scope fun Y => PG Y tg gg) (ht : Blk X scope fun Y => PTs Y ifs tt) (hk : Blk X scope fun Y => PE Y kx tkk) (he : Blk X scope fun Y => PE Y vx tvv) (hs : ∀ x, foldedSetIterable iter X.env x = pure x) :
    PS X (.Assign [.Name y py] (.DictComp kx vx [⟨tg, iter, ifs, 0⟩] scope pos) spos) (tAsg (tDc wi gg tt tkk tvv (own.map (·.2))) (gName i)) := by
  refine ⟨fun pins s σ H En I h => ?_⟩
  rw [exec_Assign_Name_used _ _ _ _ hsw]
  refine wpAny_bind (wpAny_standAt (wpAny_bind ?_))
  show wpAny _ X.A (do let _ ← comprehension (.DictComp kx vx [⟨tg, iter, ifs, 0⟩] scope pos) scope X.env (firstIterPos [⟨tg, iter, ifs, 0⟩] pos) newDict false (eval iter X.env) (some (assign (.Name y py) X.env))) _ _ s
  have h : tDc wi gg tt tkk tvv (own.map (·.2)) σ H (fun x H1 => gName i x σ H1 En.nx) := h
  refine wpAny_bind (thn (dc_core (Qf := fun _ s' => SP X pins En .next s') hc hN I hi ok hg ht hk he hs h fun L C s' m H' I' q hn f => ?_) fun _ s' hq => wpAny_pure (wpAny_pure hq))
  show wpAny _ _ (assign (.Name y py) X.env (.ref L)) _ _ _
  refine wpAny_assign_Name (store_ok2 (v := V.ref L) I' hN hy (.inl hyl) rfl (fun s2 I2 ⟨a, sb, ha⟩ => ?_) (.inr hyl))
  obtain ⟨f0, f1, f2, f3, f4, f5⟩ := f
  have ne : C ≠ a := by
    rcases ha with z | z
    · rw [z]; exact f1
    · exact fun e => f4 y a z e.symm
  exact ⟨m, hn.sameBut sb ne, fun h3 sb3 => ⟨_, H', I2.turned (t' := s2.toks) (fun b o hb e => (sb3.2 b hb).trans e) f0 f1 f3 f4 f5, q⟩⟩
theorem swD_true {gs : List Comprehension} {pos py : Pos} {y : Str} {l : Nat} {env : PySem.Env} (hk : env.scope.kind = .function) (hy : env.scope.names.lookup y = some .local) (hl : (py.line == pos.line) = true)
    (ha : (scope.names.any fun (n, k) => n == y && (k == .local || k == .cell)) = false) : swapsWith (.DictComp kx vx gs scope pos) (some (.Name y py)) l env = pure true := by
  have ky : env.kindOf y = some .local := hy
  have hb : env.blockKind = .function := by unfold Env.blockKind; rw [hk]; rfl
  unfold swapsWith
  simp only [hb, ky, ha, Expr.pos, hl]
  rfl
theorem k_setDc {i : Nat} {y : Str} {py spos : Pos} (own : List (Str × Nat)) (hc : X.calm = true) (hN : X.N.Nodup) (hy : X.N[i]? = some y) (hyl : X.env.scope.names.lookup y = some .local)
    (hsw : swapsWith (.DictComp kx vx [⟨tg, iter, ifs, 0⟩] scope pos) (some (.Name y py)) spos.line X.env = pure true) (hi : SI T F W X tg iter ti) (ok : BlkOk X.N X.env.scope scope own) (hv : ∀ j, j ∈ tv → j ∈ own.map (·.2))
    (hg : ∀ D, Blk X scope fun Y => PG Y tg (denG T (F.blk (own.map (·.2)) D) tv set)) (ht : ∀ D, Blk X scope fun Y => STs T (F.blk (own.map (·.2)) D) noW Y ifs tc)
    (hk : ∀ D, Blk X scope fun Y => SE T (F.blk (own.map (·.2)) D) noW Y kx tk) (he : ∀ D, Blk X scope fun Y => SE T (F.blk (own.map (·.2)) D) noW Y vx te)
    (hs : ∀ x, foldedSetIterable iter X.env x = pure x := by intro _; rfl) : SS T F W X (.Assign [.Name y py] (.DictComp kx vx [⟨tg, iter, ifs, 0⟩] scope pos) spos) (sSet F.pn i (D.noOm (eDc (own.map (·.2)) ti set tc tk te))) := by
  refine ps_imp (ps_setDc hc hN hy hyl hsw hi ok (fun s H C cl fp => pg_any fun D => hg D s H C cl fp) (fun s H C cl fp => pts_any fun D => ht D s H C cl fp) (fun s H C cl fp => pe_any fun D => hk D s H C cl fp) (fun s H C cl fp => pe_any fun D => he D s H C cl fp) hs) fun En σ H q => ?_
  refine dc_den hv ?_
  rw [sSet_noOm] at q
  refine denS.bind q fun d ρ1 g0 H0 g1 H1 v s1 e1 r1 p1 => ?_
  split at p1
  · exact p1.elim
  · rename_i n
    split at p1
    · exact p1.elim
    · rename_i hp
      obtain ⟨g2, s2, e2, r2⟩ := freezeF e1 r1 (by simpa using n)
      exact p1 _ g2 H1 s2 (e2.setFz (by simpa using hp) r2)
end
abbrev EP := List Sl → Res (List Sl)
def pNil : EP := fun ρ => .ok [] ρ
def pVal (t : EE) (r : EP) : EP := fun ρ => (t ρ).bind fun d ρ => (r ρ).bind fun ss ρ => .ok (.fz d :: ss) ρ
def D.oneA : D → Bool
  | .lst _ => true
  | .dk _ => true
  | .dt _ => true
  | _ => false
def pOwn (t : EE) (r : EP) : EP := fun ρ => (t ρ).bind fun d ρ => if d.oneA then (r ρ).bind fun ss ρ => .ok (.ow d :: ss) ρ else .no
def setAll (pn : Nat → Bool) : List Nat → List Sl → List Sl → Option (List Sl)
  | [], [], ρ => some ρ
  | i :: is, s :: ss, ρ => if pn i then none else setAll pn is ss (ρ.set i s)
  | _, _, _ => none
def sPar (pn : Nat → Bool) (is : List Nat) (t : EP) : ES := fun ρ => (t ρ).thenS fun ss ρ => match setAll pn is ss ρ with
  | some ρ => .nx ρ
  | none => .no
inductive RP (T : Tx) (F : Fm) (g : Gh) (H : Hp) (ρ : List Sl) : List Sl → List V → List (List Addr) → Prop
  | nil : RP T F g H ρ [] [] []
  | fz {d : D} {v : V} {ss : List Sl} {vs : List V} {fps : List (List Addr)} : R T H g.Z v d → RP T F g H ρ ss vs fps → RP T F g H ρ (.fz d :: ss) (v :: vs) ([] :: fps)
  | ow {d : D} {v : V} {fp : List Addr} {ss : List Sl} {vs : List V} {fps : List (List Addr)} : Own T H g.Z v d fp → (∀ a ∈ fp, g.Z a ∧ ¬ F.Y a) → (∀ (i : Nat) (e : D), ρ[i]? = some (Sl.ow e) → ∀ a ∈ g.fp i, a ∉ fp) → (∀ f ∈ fps, ∀ a ∈ f, a ∉ fp) →
      RP T F g H ρ ss vs fps → RP T F g H ρ (.ow d :: ss) (v :: vs) (fp :: fps)
def rP (T : Tx) (F : Fm) (ss : List Sl) (ρ : List Sl) (g : Gh) (_ : St) (H : Hp) (vs : List V) : Prop := ∃ fps, RP T F g H ρ ss vs fps
def SPr (T : Tx) (F : Fm) (W : WX') (X : Cx) (es : List Expr) (t : EP) : Prop := PA X es (den T F W (rP T F) t)
section
variable {T : Tx} {F : Fm} {W : WX'} {X : Cx} {e : Expr} {es : List Expr}
theorem p_nil : SPr T F W X [] pNil := pa_imp pa_nil fun σ H Q q => by
  obtain ⟨g, ρ, s, p⟩ := q
  exact p [] g H .refl s ⟨[], .nil⟩
theorem p_val {t : EE} {r : EP} (h : SE T F W X e t) (hr : SPr T F W X es r) (hs : starEach (e :: es) X.env = (false, eval e X.env) :: starEach es X.env := by rfl) : SPr T F W X (e :: es) (pVal t r) := by
  refine pa_imp (pa_cons h hr hs) fun σ H Q q => den.bind q fun d ρ1 g0 H0 g1 H1 v s1 e1 r1 p1 => ?_
  refine ⟨g1, ρ1, e1, Po.bind p1 fun ss ρ2 g2 H2 vs s2 e2 r2 p2 => ?_⟩
  obtain ⟨fps, r2⟩ := r2
  exact p2.ok e2 ⟨[] :: fps, .fz (R.step s2.st r1) r2⟩
theorem oneA_fp {Z : Zs} {H : Hp} {v : V} {d : D} {fp : List Addr} (o : Own T H Z v d fp) (h : d.oneA = true) : ∃ a, fp = [a] := by
  cases o <;> first | exact ⟨_, rfl⟩ | cases h
theorem RP.ofBlk {g : Gh} {H : Hp} {ρ : List Sl} {a : Addr} : ∀ {ss : List Sl} {vs : List V} {fps : List (List Addr)}, RP T (F.blk [] a) g H ρ ss vs fps → RP T F g H ρ ss vs fps ∧ ∀ f ∈ fps, a ∉ f
  | _, _, _, .nil => ⟨.nil, by simp⟩
  | _, _, _, .fz r t => by
    obtain ⟨h1, h2⟩ := RP.ofBlk t
    exact ⟨.fz r h1, fun f hf => by
      rcases List.mem_cons.mp hf with rfl | hf
      · simp
      · exact h2 f hf⟩
  | _, _, _, .ow o hz hd hf t => by
    obtain ⟨h1, h2⟩ := RP.ofBlk t
    exact ⟨.ow o (fun b hb => ⟨(hz b hb).1, fun y => (hz b hb).2 (.inl y)⟩) hd hf h1, fun f hf2 => by
      rcases List.mem_cons.mp hf2 with rfl | hf2
      · exact fun hb => (hz a hb).2 (.inr rfl)
      · exact h2 f hf2⟩
theorem pa_any {X : Cx} {ι : Type} {e : List Expr} {t : ι → TA} (h : ∀ i, PA X e (t i)) : PA X e (fun σ H Q => ∃ i, t i σ H Q) := ⟨fun pos pins s σ H Q I ⟨i, q⟩ => (h i).run pos pins s σ H Q I q⟩
theorem p_own {t : EE} {r : EP} (h : SN T F W X e t) (hr : ∀ D, SPr T (F.blk [] D) W X es r) (hs : starEach (e :: es) X.env = (false, eval e X.env) :: starEach es X.env := by rfl) : SPr T F W X (e :: es) (pOwn t r) := by
  refine pa_imp (pa_cons h (pa_any hr) hs) fun σ H Q q => den.bind q fun d ρ1 g0 H0 g1 H1 v s1 e1 r1 p1 => ?_
  obtain ⟨fp, o, hz, hd⟩ := r1
  split at p1
  · rename_i h1
    obtain ⟨a, rfl⟩ := oneA_fp o h1
    have hza := (hz a (by simp)).1
    refine ⟨a, g1, ρ1, e1.toBlk (ws := []) hza (fun i e q b hb e2 => hd i e q b hb (by simp [e2])), ?_⟩
    cases h2 : r ρ1 with
    | no => rw [h2] at p1; exact p1.elim
    | ex x ρ' => rw [h2] at p1; exact fun cls dd g' H' s' e' r' => p1 cls dd g' H' s'.ofBlk (SR.ofBlk0 e1 e').1 r'
    | ok ss ρ2 =>
      rw [h2] at p1
      intro vs g2 H2 s2 e2 r2
      obtain ⟨fps, r2⟩ := r2
      obtain ⟨c1, c2⟩ := SR.ofBlk0 e1 e2
      obtain ⟨b1, b2⟩ := RP.ofBlk r2
      refine p1 (v :: vs) g2 H2 s2.ofBlk c1 ⟨[a] :: fps, .ow (o.step s2.st fun b hb => ?_) (fun b hb => ?_) (fun i e q b hb => ?_) (fun f hf b hb => ?_) b1⟩
      · cases List.mem_singleton.mp hb; exact s2.pr a (.inr rfl)
      · cases List.mem_singleton.mp hb; exact ⟨e2.yz a (.inr rfl), (hz a (by simp)).2⟩
      · simpa using c2 i e q b hb
      · intro hb2; cases List.mem_singleton.mp hb2; exact b2 f hf hb
  · exact p1.elim
theorem RP.set {g : Gh} {H : Hp} {ρ : List Sl} {i : Nat} {s : Sl} {fp : List Addr} : ∀ {ss : List Sl} {vs : List V} {fps : List (List Addr)}, (∀ f ∈ fps, ∀ a ∈ f, a ∉ fp) → RP T F g H ρ ss vs fps → RP T F (g.at i fp) H (ρ.set i s) ss vs fps
  | _, _, _, _, .nil => .nil
  | _, _, _, h, .fz r t => .fz r (RP.set (fun f hf => h f (List.mem_cons_of_mem _ hf)) t)
  | _, _, _, h, .ow o hz hd hf t => .ow o hz (fun j e q a ha => by
      by_cases ij : j = i
      · subst ij
        simp only [Gh.at, if_pos] at ha
        exact fun hb => h _ (by simp) a hb ha
      · simp only [Gh.at, if_neg ij] at ha
        rw [List.getElem?_set_ne (Ne.symm ij)] at q
        exact hd j e q a ha) hf (RP.set (fun f hf => h f (List.mem_cons_of_mem _ hf)) t)
theorem RPfz {g : Gh} {H : Hp} {ρ : List Sl} {i : Nat} {d : D} : ∀ {ss : List Sl} {vs : List V} {fps : List (List Addr)}, RP T F g H ρ ss vs fps → RP T F g H (ρ.set i (.fz d)) ss vs fps
  | _, _, _, .nil => .nil
  | _, _, _, .fz r t => .fz r (RPfz t)
  | _, _, _, .ow o hz hd hf t => .ow o hz (fun j e q a ha => by
      rw [List.getElem?_set] at q
      split at q
      · split at q <;> cases q
      · exact hd j e q a ha) hf (RPfz t)
/-- the state when all are stored -/
def stAll : List Nat → List V → St → St
  | i :: is, v :: vs, σ => stAll is vs (σ.set i (some v))
  | _, _, σ => σ
theorem SR.setAll {H : Hp} : ∀ {is : List Nat} {ss : List Sl} {vs : List V} {fps : List (List Addr)} {g : Gh} {ρ ρ' : List Sl} {σ : St}, SR T F g ρ σ H → RP T F g H ρ ss vs fps → setAll F.pn is ss ρ = some ρ' → ∃ g', Stp F g H g' H ∧ SR T F g' ρ' (stAll is vs σ) H
  | [], [], _, _, g, ρ, ρ', σ, s, r, e => by cases r; cases e; exact ⟨g, .refl, s⟩
  | i :: is, _, _, _, g, ρ, ρ', σ, s, .fz r t, e => by
    simp only [Lc.setAll] at e
    split at e
    · cases e
    · rename_i hp
      have s1 := s.setFz (by simpa using hp) r
      obtain ⟨g', a, b⟩ := SR.setAll s1 (RPfz t) e
      exact ⟨g', a, b⟩
  | i :: is, _, _, _, g, ρ, ρ', σ, s, .ow (fp := fp) o hz hd hf t, e => by
    simp only [Lc.setAll] at e
    split at e
    · cases e
    · rename_i hp
      have s1 := s.setOw (by simpa using hp) o hz hd
      obtain ⟨g', a, b⟩ := SR.setAll s1 (RP.set hf t) e
      exact ⟨g', Stp.at.trans a, b⟩
  | [], _ :: _, _, _, _, _, _, _, _, _, e => by cases e
  | _ :: _, [], _, _, _, _, _, _, _, r, e => by cases r; cases e
theorem k_par2 {i j : Nat} {x y : Str} {a b : Expr} {t : EP} {px py pt pos : Pos} {kt k2 pt2} (hc : X.calm = true) (hN : X.N.Nodup) (hi : X.N[i]? = some x) (hj : X.N[j]? = some y) (hij : i ≠ j)
    (hx : X.env.scope.names.lookup x = some .local) (hy : X.env.scope.names.lookup y = some .local) (ha : SPr T F W X [a, b] t) (hw : swappedStores [.Tuple [.Name x px, .Name y py] kt pt] (.Tuple [a, b] k2 pt2) X.env = pure (some [x, y]))
    (hs : swapsWithSole [.Tuple [.Name x px, .Name y py] kt pt] (.Tuple [a, b] k2 pt2) pos.line X.env = pure false := by rfl) :
    SS T F W X (.Assign [.Tuple [.Name x px, .Name y py] kt pt] (.Tuple [a, b] k2 pt2) pos) (sPar F.pn [i, j] t) := by
  refine ps_imp (ps_par hc hN hi hj hij hx hy ha hw hs) fun En σ H q => denS.bind q fun ss ρ1 g0 H0 g1 H1 vs s1 e1 r1 p1 => ?_
  obtain ⟨fps, r1⟩ := r1
  cases hset : Lc.setAll F.pn [i, j] ss ρ1 with
  | none => simp only [hset] at p1; exact p1.elim
  | some ρ2 =>
    simp only [hset] at p1
    obtain ⟨g2, s2, e2⟩ := SR.setAll e1 r1 hset
    have h2 : ∃ v w, vs = [v, w] := by
      have hl : ss.length = 2 := by
        match ss, hset with
        | [], h => cases h
        | [s0], h => simp only [Lc.setAll] at h; split at h <;> cases h
        | [s0, s3], _ => rfl
        | s0 :: s3 :: s4 :: r, h => simp only [Lc.setAll] at h; split at h <;> (try cases h); split at h <;> cases h
      have hv : ∀ {ss : List Sl} {vs : List V} {fps : List (List Addr)}, RP T F g1 H1 ρ1 ss vs fps → ss.length = vs.length := fun h => by
        induction h with
        | nil => rfl
        | fz _ _ ih => simp [ih]
        | ow _ _ _ _ _ ih => simp [ih]
      have := hv r1
      match vs, (by rw [← this]; exact hl : vs.length = 2) with
      | [v, w], _ => exact ⟨v, w, rfl⟩
    obtain ⟨v, w, rfl⟩ := h2
    exact ⟨v, w, rfl, p1 _ g2 H1 s2 e2⟩
theorem k_par3 {i j l : Nat} {x y z : Str} {a b c : Expr} {t : EP} {px py pz pt pos : Pos} {kt k2 pt2} (hc : X.calm = true) (hN : X.N.Nodup) (hi : X.N[i]? = some x) (hj : X.N[j]? = some y) (hl : X.N[l]? = some z) (hij : i ≠ j) (hil : i ≠ l) (hjl : j ≠ l)
    (hx : X.env.scope.names.lookup x = some .local) (hy : X.env.scope.names.lookup y = some .local) (hz : X.env.scope.names.lookup z = some .local) (ha : SPr T F W X [a, b, c] t)
    (hw : swappedStores [.Tuple [.Name x px, .Name y py, .Name z pz] kt pt] (.Tuple [a, b, c] k2 pt2) X.env = pure (some [x, y, z]))
    (hs : swapsWithSole [.Tuple [.Name x px, .Name y py, .Name z pz] kt pt] (.Tuple [a, b, c] k2 pt2) pos.line X.env = pure false := by rfl) :
    SS T F W X (.Assign [.Tuple [.Name x px, .Name y py, .Name z pz] kt pt] (.Tuple [a, b, c] k2 pt2) pos) (sPar F.pn [i, j, l] t) := by
  refine ps_imp (ps_par3 hc hN hi hj hl hij hil hjl hx hy hz ha hw hs) fun En σ H q => denS.bind q fun ss ρ1 g0 H0 g1 H1 vs s1 e1 r1 p1 => ?_
  obtain ⟨fps, r1⟩ := r1
  cases hset : Lc.setAll F.pn [i, j, l] ss ρ1 with
  | none => simp only [hset] at p1; exact p1.elim
  | some ρ2 =>
    simp only [hset] at p1
    obtain ⟨g2, s2, e2⟩ := SR.setAll e1 r1 hset
    have h2 : ∃ u v w, vs = [u, v, w] := by
      have hl : ss.length = 3 := by
        match ss, hset with
        | [], h => cases h
        | [s0], h => simp only [Lc.setAll] at h; split at h <;> cases h
        | [s0, s3], h => simp only [Lc.setAll] at h; split at h <;> (try cases h); split at h <;> cases h
        | [s0, s3, s4], _ => rfl
        | s0 :: s3 :: s4 :: s5 :: r, h => simp only [Lc.setAll] at h; split at h <;> (try cases h); split at h <;> (try cases h); split at h <;> cases h
      have hv : ∀ {ss : List Sl} {vs : List V} {fps : List (List Addr)}, RP T F g1 H1 ρ1 ss vs fps → ss.length = vs.length := fun h => by
        induction h with
        | nil => rfl
        | fz _ _ ih => simp [ih]
        | ow _ _ _ _ _ ih => simp [ih]
      have := hv r1
      match vs, (by rw [← this]; exact hl : vs.length = 3) with
      | [u, v, w], _ => exact ⟨u, v, w, rfl⟩
    obtain ⟨u, v, w, rfl⟩ := h2
    exact ⟨u, v, w, rfl, p1 _ g2 H1 s2 e2⟩
/-- what is unpacked -/
def sUn (set : GT) (t : EE) : ES := fun ρ => (t ρ).thenS fun d ρ => match set d ρ with
  | some ρ => .nx ρ
  | none => .no
theorem k_asg {tg : Expr} {pos : Pos} {t : EE} {set : GT} {tv : List Nat} (h : SE T F W X e t) (hg : PG X tg (denG T F tv set)) (hs : swapsWithSole [tg] e pos.line X.env = pure false := by rfl) (hw : swappedStores [tg] e X.env = pure none := by rfl)
    (h1 : (assignEach [tg] X.env).map (·.2) = [assign tg X.env] := by rfl) : SS T F W X (.Assign [tg] e pos) (sUn set t) := by
  refine ps_imp (ps_asg h hg hs hw h1) fun En σ H q => denS.bind q fun d ρ1 g0 H0 g1 H1 v s1 e1 r1 p1 => ?_
  cases h2 : set d ρ1 with
  | none => simp only [h2] at p1; exact p1.elim
  | some ρ2 =>
    simp only [h2] at p1
    exact ⟨g1, ρ1, d, ρ2, e1, r1, h2, fun σ' e' _ => p1 σ' g1 H1 .refl e'⟩
end
end Lc
namespace Ls
open PySem L2 PySem.Spec PyProof.Rows

def kv? : Value → Option L2.Key
  | .int i _ => some (.inl i)
  | .str x _ => some (.inr x)
  | _ => none
theorem kv_is {k : L2.Key} {v : Value} : keyIs k v = true ↔ kv? v = some k := by
  constructor
  · intro h
    rcases keyIs_shape h with ⟨i, t, rfl, rfl⟩ | ⟨x, t, rfl, rfl⟩ <;> rfl
  · intro h
    cases v <;> simp only [kv?, reduceCtorEq, Option.some.injEq] at h
    · subst h; exact keyIs_int _ _
    · subst h; exact keyIs_str _ _
theorem kv_scan {k : L2.Key} {v : Value} (h : kv? v = some k) : v.scannable = true := by
  cases v <;> first | rfl | cases h
def kOf (e : Int × Value) : L2.Key := (kv? e.2).getD (.inl 0)
def Good (w : World) (e : Int × Value) : Prop := ∃ k, kv? e.2 = some k ∧ e.1 = keyH w k
/-- a set with these keys -/
def SetK (w : World) (h : Heap) (a : Addr) (ks : List L2.Key) : Prop :=
  ∃ o es ep t, h.get? a = some o ∧ o.ExactSet ∧ o.data = .set es ep t ∧ (∀ e ∈ es.toList, Good w e) ∧ (es.toList.map kOf).Perm ks ∧ ks.Nodup ∧
    es.size < scanBound ∧ t.fits es.size = true ∧ Ris t.place.toList ∧ (w.params.followText "set-order" = true ∨ t.led = true)
section
variable {P : Program} {w : World} {h h' : Heap} {a : Addr} {ks : List L2.Key}
theorem SetK.at (R : SetK w h a ks) (k : ∀ o, h.get? a = some o → h'.get? a = some o) : SetK w h' a ks := by
  obtain ⟨o, es, ep, t, ho, r⟩ := R
  exact ⟨o, es, ep, t, k o ho, r⟩
theorem good_elems {l : List (Int × Value)} (g : ∀ e ∈ l, Good w e) : ElemsOf (mixKind P w) l := fun e he => by
  obtain ⟨k, h1, h2⟩ := g e he
  exact ⟨⟨k, kv_is.mpr h1, h2⟩, kv_scan h1⟩
theorem good_is {e : Int × Value} (g : Good w e) (k : L2.Key) : (mixKind P w).is k e.2 = true ↔ kOf e = k := by
  obtain ⟨k0, h1, _⟩ := g
  show keyIs k e.2 = true ↔ _
  rw [kv_is]
  unfold kOf
  rw [h1]
  simp
theorem good_mem {l : List (Int × Value)} (g : ∀ e ∈ l, Good w e) (k : L2.Key) : k ∈ l.map kOf ↔ ∃ e ∈ l, (mixKind P w).is k e.2 = true := by
  rw [List.mem_map]
  exact ⟨fun ⟨e, he, q⟩ => ⟨e, he, (good_is (g e he) k).2 q⟩, fun ⟨e, he, q⟩ => ⟨e, he, (good_is (g e he) k).1 q⟩⟩
end
section
variable {P : Program} {w : World} {A : Around} {E : Value → Shared → Prop} {s : Shared} {a : Addr} {ks : List L2.Key}
theorem add_tail {g : Bool → Sem Unit} (hg : ∀ (b : Bool) (s₁ : Shared) (Q' : Unit → Shared → Prop), Q' () s₁ → wpAny (model P w) A (g b) Q' E s₁)
    {o : Obj} {es : Array (Int × Value)} {ep : Nat} {t : SetTable} (ho : s.heap.get? a = some o) (hex : o.ExactSet) (hd : o.data = .set es ep t)
    {es1 : Array (Int × Value)} {t2 : SetTable} (g1 : ∀ e ∈ es1.toList, Good w e) (pk : (es1.toList.map kOf).Perm ks) (nd : ks.Nodup)
    (hb1 : es1.size < scanBound) (hf2 : t2.fits es1.size = true) (hr : Ris t2.place.toList) (hl : w.params.followText "set-order" = true ∨ t2.led = true) {wasDummy : Bool} {R : Option Bool → Shared → Prop}
    (hR : ∀ h', Heap.SameBut a s.heap h' → SetK w h' a ks → R (some true) { s with heap := h' }) :
    wpAny (model P w) A (do
        storeSet a es1 t2
        if (!wasDummy && t2.tooFull) = true then do
            g (relayAll t2 es1 (SetTable.grown es1.size)).2.2
            storeSet a (relayAll t2 es1 (SetTable.grown es1.size)).1 (relayAll t2 es1 (SetTable.grown es1.size)).2.1
            pure (some true)
          else pure (some true)) R E s := by
  refine wpAny_bind (wpAny_storeSet_of ho hd ?_ (fits_of_scanBound hb1))
  have ho1 := store_at (es' := es1) (t' := t2) ho hd
  have sb1 := Heap.SameBut.update s.heap a (Obj.putSet es1 t2)
  split
  · have pm := relayAll_perm t2 es1 (SetTable.grown es1.size)
    have hf3 := relayAll_fits t2 es1 (SetTable.grown es1.size)
    have hr3 := relayAll_ris t2 es1 (SetTable.grown es1.size)
    have hl3 := relayAll_led t2 es1 (SetTable.grown es1.size)
    generalize relayAll t2 es1 (SetTable.grown es1.size) = Y at pm hf3 hr3 hl3 ⊢
    obtain ⟨es2, t3, gave⟩ := Y
    dsimp only at pm hf3 hr3 hl3 ⊢
    have hb2 : es2.size < scanBound := by
      have : es2.size = es1.size := by rw [← Array.length_toList, pm.length_eq, Array.length_toList]
      rw [this]; exact hb1
    refine wpAny_bind (hg _ _ _ ?_)
    refine wpAny_bind (wpAny_storeSet_of ho1 rfl ?_ (fits_of_scanBound hb2))
    have ho2 := store_at (es' := es2) (t' := t3) ho1 rfl
    exact wpAny_pure (hR _ (sb1.trans (Heap.SameBut.update _ a _)) ⟨_, es2, _, t3, ho2, hex, rfl, fun e he => g1 e (pm.mem_iff.mp he), (pm.map kOf).trans pk, nd, hb2, hf3, hr3, hl.imp id fun y => by rw [hl3]; exact y⟩)
  · exact wpAny_pure (hR _ sb1 ⟨_, es1, _, t2, ho1, hex, rfl, g1, pk, nd, hb1, hf2, hr, hl⟩)
def addK (ks : List L2.Key) (k : L2.Key) : List L2.Key := if (ks.any fun j => decide (j = k)) = true then ks else k :: ks
theorem addK_in {ks : List L2.Key} {k : L2.Key} (h : k ∈ ks) : addK ks k = ks := if_pos (List.any_eq_true.mpr ⟨k, h, by simp⟩)
theorem addK_out {ks : List L2.Key} {k : L2.Key} (h : k ∉ ks) : addK ks k = k :: ks := if_neg fun q => by
  obtain ⟨j, hj, e⟩ := List.any_eq_true.mp q
  have : j = k := by simpa using e
  exact h (this ▸ hj)
theorem add_hashed {k : L2.Key} {v : Value} {Q : Bool → Shared → Prop} (hv : kv? v = some k) (R : SetK w s.heap a ks) (room : ks.length + 1 < scanBound)
    (hQ : ∀ b h', Heap.SameBut a s.heap h' → SetK w h' a (addK ks k) → Q b { s with heap := h' }) : wpAny (model P w) A (setAddHashed a v ((mixKind P w).hash k)) Q E s := by
  obtain ⟨o, es, ep, t, ho, hex, hd, g, pk, nd, hb, hf, hr, hl⟩ := R
  have hkey : (mixKind P w).is k v = true := kv_is.mpr hv
  have hsc : v.scannable = true := kv_scan hv
  have hel : ElemsOf (mixKind P w) es.toList := good_elems g
  have hn : es.size = ks.length := by rw [← pk.length_eq, List.length_map, Array.length_toList]
  unfold setAddHashed setAddHashedIn
  refine wpAny_holding (wpAny_bind (wpAny_setState_of ho hd hf ?_))
  dsimp only
  rw [byScan_of hsc hb hel]
  simp only [↓reduceIte]
  unfold setAddByScan
  refine wpAny_bind ?_
  refine wpAny_bind (wpAny_rule ?_)
  refine wpAny_bind (wpAny_setScan_of hkey ho hd hf hel ?_)
  cases hfi : List.findIdx? (fun e => (mixKind P w).is k e.2) es.toList with
  | some j =>
    dsimp only
    obtain ⟨hj, pj, _⟩ := List.findIdx?_eq_some_iff_getElem.mp hfi
    have hk : k ∈ ks := pk.mem_iff.mp ((good_mem (P := P) (w := w) g k).2 ⟨es.toList[j], List.getElem_mem hj, pj⟩)
    refine wpAny_pure (wpAny_pure (hQ _ s.heap (Heap.SameBut.refl a s.heap) ?_))
    rw [addK_in hk]
    exact ⟨o, es, ep, t, ho, hex, hd, g, pk, nd, hb, hf, hr, hl⟩
  | none =>
    dsimp only
    have hnk : k ∉ ks := fun y => by
      obtain ⟨e, he, q⟩ := (good_mem (P := P) (w := w) g k).1 (pk.mem_iff.mpr y)
      have c := List.findIdx?_eq_none_iff.mp hfi e he
      rw [q] at c
      cases c
    have hgw : ∀ (b : Bool) {s₁ : Shared} {Q' : Unit → Shared → Prop}, Q' () s₁ → wpAny (model P w) A (match b with | true => rule "set.scan.the-table-gave-way" | false => pure ()) Q' E s₁ :=
      fun b s₁ Q' q => by cases b <;> first | exact wpAny_pure q | exact wpAny_rule q
    have pm := layNew_perm t es ((mixKind P w).hash k) v
    have hf1 := layNew_fits t es ((mixKind P w).hash k) v
    have hr1 := layNew_ris t es ((mixKind P w).hash k) v hr
    have hl1 := layNew_led t es ((mixKind P w).hash k) v
    generalize layNew t es ((mixKind P w).hash k) v = Y at pm hf1 hr1 hl1 ⊢
    obtain ⟨es1, t1, wasDummy, gave⟩ := Y
    dsimp only at pm hf1 hr1 hl1 ⊢
    rw [Array.toList_push] at pm
    have pc : es1.toList.Perm (((mixKind P w).hash k, v) :: es.toList) := pm.trans (List.perm_append_singleton _ _)
    have ek : kOf ((mixKind P w).hash k, v) = k := by unfold kOf; rw [hv]; rfl
    have pk1 : (es1.toList.map kOf).Perm (k :: ks) := by
      have q := pc.map kOf
      rw [List.map_cons, ek] at q
      exact q.trans (pk.cons k)
    have g1 : ∀ e ∈ es1.toList, Good w e := fun e he => by
      rcases List.mem_cons.mp (pc.mem_iff.mp he) with y | y
      · rw [y]; exact ⟨k, hv, rfl⟩
      · exact g e y
    have nd1 : (k :: ks).Nodup := List.nodup_cons.mpr ⟨hnk, nd⟩
    have hb1 : es1.size < scanBound := by
      have : es1.size = ks.length + 1 := by rw [← Array.length_toList, pc.length_eq, List.length_cons, Array.length_toList, hn]
      rw [this]; exact room
    have hled : w.params.followText "set-order" = true ∨ t1.led = true := hl.imp id fun y => by rw [hl1]; exact y
    have fin : ∀ b h', Heap.SameBut a s.heap h' → SetK w h' a (k :: ks) → Q b { s with heap := h' } := fun b h' sb r => hQ b h' sb (by rw [addK_out hnk]; exact r)
    refine wpAny_bind (hgw _ ?_)
    split
    · refine wpAny_bind ?_
      rw [hashByValue_scannable 8 hsc]
      refine wpAny_pure ?_
      refine add_tail ?_ ho hex hd g1 pk1 nd1 hb1 ?_ ?_ ?_ ?_
      · intro b s₁ Q' q; cases b <;> first | exact wpAny_pure q | exact wpAny_rule q
      · first | (split <;> first | exact hf1 | exact SetTable.fits_plain_off hf1) | exact hf1
      · first | (split <;> exact hr1) | exact hr1
      · first | (split <;> exact hled) | exact hled
      · intro h' sb r; dsimp only; exact wpAny_pure (fin _ h' sb r)
    · refine wpAny_bind (wpAny_pure ?_)
      simp only [↓reduceIte]
      refine add_tail ?_ ho hex hd g1 pk1 nd1 hb1 hf1 hr1 hled ?_
      · intro b s₁ Q' q; cases b <;> first | exact wpAny_pure q | exact wpAny_rule q
      · intro h' sb r; dsimp only; exact wpAny_pure (fin _ h' sb r)
end
/-- the keys of the first ones -/
def dd (ks : List L2.Key) : List L2.Key := ks.foldl addK []
theorem addK_len (ks : List L2.Key) (k : L2.Key) : (addK ks k).length ≤ ks.length + 1 := by
  unfold addK; split
  · exact Nat.le_succ _
  · exact Nat.le_refl _
theorem fold_len : ∀ (l acc : List L2.Key), (l.foldl addK acc).length ≤ acc.length + l.length
  | [], acc => Nat.le_refl _
  | k :: l, acc => by
    have h1 := fold_len l (addK acc k)
    have h2 := addK_len acc k
    simp only [List.foldl_cons, List.length_cons]; omega
section
variable {prog : Program} {w : World} {A : Around} {R : Result → Shared → Prop} {I : Addr} {fp wr : List Addr} {G : Array GenState → Array GenState → Prop} {n : Nat} {Pv : Nat → Value → Prop} {St : Nat → Shared → Prop}
theorem loopK (W : WalksS prog w A.in1 I fp wr G n Pv St) (S : Addr) (hSf : S ∉ fp) (ks : List L2.Key) (hsz : ks.length = n) (hn1 : n < 4000) (hval : ∀ i v, Pv i v → ∃ k, ks[i]? = some k ∧ kv? v = some k) :
    ∀ (c i : Nat) (s : Shared), n - i = c → i ≤ n → St i s → SetK w s.heap S (dd (ks.take i)) →
      (∀ s', Moved (S :: wr) G s s' → SetK w s'.heap S (dd ks) → R (.ok (.ret .none)) s') → codeAny (model prog w) A (.builtin "set.update.loop" ⟨[.ref S, .ref I], []⟩) R s := by
  have hSw : S ∉ wr := fun h => hSf (W.sub _ h)
  have hsub : ∀ b ∈ wr, b ∈ S :: wr := fun b hb => List.mem_cons_of_mem _ hb
  intro c
  induction c with
  | zero =>
    intro i s hk hi hst hS hR
    have hin : i = n := by omega
    subst hin
    refine codeAny_builtin PyProof.Rows.F.entry_set_update_loop ?_
    rw [Around.under_plainId PyProof.Rows.F.plain_set_update_loop _]
    show wpAny _ A.in1 (pyNext (.ref I) >>= _) _ _ s
    refine wpAny_bind (W.done s _ _ hst fun s' hm => ?_)
    show wpAny _ A.in1 (ret Value.none) _ _ s'
    rw [← hsz, List.take_length] at hS
    exact wpAny_pure (hR s' (hm.mono hsub) (hS.at fun o ho => hm.heap S _ hSw ho))
  | succ c ih =>
    intro i s hk hi hst hS hR
    have hlt : i < n := by omega
    refine codeAny_builtin PyProof.Rows.F.entry_set_update_loop ?_
    rw [Around.under_plainId PyProof.Rows.F.plain_set_update_loop _]
    show wpAny _ A.in1 (pyNext (.ref I) >>= _) _ _ s
    refine wpAny_bind (W.item i s _ _ hlt hst fun v s' hP hst' hm => ?_)
    obtain ⟨k, hki, hv⟩ := hval i v hP
    have hS' : SetK w s'.heap S (dd (ks.take i)) := hS.at fun o ho => hm.heap S _ hSw ho
    show wpAny _ A.in1 (holding [v] (setAdd S v) >>= _) _ _ s'
    refine wpAny_bind (wpAny_holding ?_)
    unfold setAdd
    refine wpAny_holding ?_
    refine wpAny_bind ((mixKind prog w).pyHash (k := k) (kv_is.mpr hv) ?_)
    have hroom : (dd (ks.take i)).length + 1 < scanBound := by
      have := fold_len (ks.take i) []
      rw [List.length_take] at this
      unfold dd scanBound
      simp only [List.length_nil, Nat.zero_add] at this
      omega
    refine add_hashed (s := { s' with toks := s'.toks + 1 }) hv hS' hroom fun b h' hsb hS2 => ?_
    have etake : dd (ks.take (i + 1)) = addK (dd (ks.take i)) k := by
      have : ks.take (i + 1) = ks.take i ++ [k] := by rw [List.take_add_one, hki]; rfl
      rw [this]; unfold dd; rw [List.foldl_append]; rfl
    refine wpAny_pure ⟨plainId_quiet PyProof.Rows.F.plain_set_update_loop _, ih (i + 1) _ (by omega) hlt (W.frame _ s' _ _ hst' (Nat.le_succ _) fun b hb o e => ?_) (by rw [etake]; exact hS2) fun s'' hm'' hS'' => ?_⟩
    · rw [hsb.2 b (fun h : b = S => hSf (by rw [← h]; exact hb))]; exact e
    · refine hR s'' (Moved.trans W.gtrans ((hm.mono hsub).then_heap (Nat.le_succ _) fun b o hb e => ?_) hm'') hS''
      rw [hsb.2 b (fun h : b = S => hb (by rw [h]; exact List.mem_cons_self))]; exact e
end
end Ls
namespace Ls
open PySem L2 PySem.Spec PyProof.Rows
abbrev setO (led : Bool) : Obj := { cls := .type "set", dict := none, data := .set #[] 0 (.fresh 0 0 led) }
theorem fresh_ok {w : World} {h : Heap} {a : Addr} (q : h.get? a = some (setO (!w.params.followText "set-order"))) : SetK w h a [] :=
  ⟨_, #[], 0, _, q, ⟨rfl, rfl, rfl⟩, rfl, fun e he => by simp at he, .refl _, List.nodup_nil, by decide, rfl, List.Pairwise.nil, by
    show _ ∨ (!w.params.followText "set-order") = true
    cases w.params.followText "set-order" <;> simp⟩
section
variable {prog : Program} {w : World} {A : Around} {E : Value → Shared → Prop} {s : Shared}
theorem newLed (x : Value) {Q₁ : Value → Shared → Prop} (h : Q₁ (.ref s.heap.objs.size) { s with heap := s.heap.push (setO (!w.params.followText "set-order")) }) :
    codeAny (model prog w) A (.call (.builtin "set.__new__") ⟨[.type "set", x], []⟩) (wants Q₁ E) s := by
  refine codeAny_of_tree (show wpAny _ A.in1 (do checkBuiltinCall "set.__new__" ⟨[.type "set", x], []⟩; again (.builtin "set.__new__" ⟨[.type "set", x], []⟩)) _ _ s from
    wpAny_bind (wpAny_of_eq (PySem.F.newCall_set_1 x) (wpAny_pure ⟨plainId_quiet PySem.F.plain_set_new _, codeAny_builtin PySem.F.entry_set_new ?_⟩)))
  rw [Around.under_plainId PySem.F.plain_set_new _]
  have sub := sub_set_self
  unfold Builtin.«set.__new__» Builtin.Frozenset.newClass
  obtain ⟨hp, gs, dr, tks, osx⟩ := s
  dsimp only
  wp_walk
  refine wpAny_askSetting (wpAny_pure ?_)
  dsimp only
  simp only [newObj]
  exact wpAny_bind (wpAny_alloc (wpAny_pure (wpAny_pure h)))
theorem set_of_list {l : Addr} {vs : Array Value} {ks : List L2.Key} {Q : Value → Shared → Prop} (calm : A.handled = none) (isl : s.heap.IsList l vs) (few : vs.size < 4000) (sz : ks.length = vs.size) (val : ∀ (i : Nat) (v : Value), vs[i]? = some v → ∃ k, ks[i]? = some k ∧ kv? v = some k)
    (done : ∀ (h' : Heap) (tk : Nat), SetK w h' s.heap.objs.size (dd ks) → (∀ b o, b < s.heap.objs.size → s.heap.get? b = some o → h'.get? b = some o) → Q (.ref s.heap.objs.size) { s with heap := h', toks := tk }) :
    wpAny (model prog w) A (call (.type "set") [.ref l]) Q E s := by
  have made := PySem.F.called_set.made
  have subs := PySem.F.called_set.sub
  have nty := PySem.F.called_set.notType
  have ccr := PySem.F.called_set.canCreate
  have tcl := PySem.F.typeCall_set_1 (.ref l)
  obtain ⟨c, tl, mro⟩ := PySem.F.called_set.mro
  refine wpAny_call (codeAny_of_tree (show wpAny _ _ (callAny (.type "set") _) _ _ _ from wpAny_pure ⟨Code.quiet_builtin _ (by decide +kernel), codeAny_builtin PySem.F.entry_type_call ?_⟩))
  rw [Around.under_plain (weight_type_call_type "set" [.ref l] []) rfl]
  repeat (any_goals (first | assumption | wp_step))
  refine codeAny_mono (newLed (.ref l) (E := E) (Q₁ := fun obj s₁ => obj = .ref s.heap.objs.size ∧ s₁ = { s with heap := s.heap.push (setO (!w.params.followText "set-order")) }) ⟨rfl, rfl⟩) fun r s₁ hr => ?_
  cases r with
  | error e => exact hr
  | ok fl => cases fl with
    | ret obj =>
      obtain ⟨rfl, rfl⟩ := hr
      have at0 : (s.heap.push (setO (!w.params.followText "set-order"))).get? s.heap.objs.size = some (setO (!w.params.followText "set-order")) := Heap.get?_push_size _ rfl
      have isT : Shared.TypeIs { s with heap := s.heap.push (setO (!w.params.followText "set-order")) } (.ref s.heap.objs.size) "set" := ⟨_, at0, rfl⟩
      have lki := PySem.F.called_set.init.lookup
      have bdi := PySem.F.called_set.init.bind (.ref s.heap.objs.size)
      repeat (any_goals (first | assumption | wp_step))
      refine codeAny_mono (codeAny_call_builtin (R := wants (fun r s₂ => r = .none ∧ ∃ h' tk, s₂ = { s with heap := h', toks := tk } ∧ SetK w h' s.heap.objs.size (dd ks) ∧ (∀ b o, b < s.heap.objs.size → s.heap.get? b = some o → h'.get? b = some o)) E) PySem.F.called_set.init.plain PySem.F.entry_set_init (check_set_init_1 isT ?_)) fun r₂ s₂ hr₂ => ?_
      · obtain ⟨⟨oc, od, odt, osl⟩, gl, hcl, nl, hdl⟩ := isl
        simp only at hcl hdl
        subst hcl hdl
        have gl2 : (s.heap.push (setO (!w.params.followText "set-order"))).get? l = some { cls := .type "list", dict := od, data := .seq vs nl, slots := osl } := Heap.get?_push_of_some _ gl
        have sls := PySem.F.sub_list_set
        have slf := PySem.F.sub_list_frozenset
        have nod : (Value.type "list" == Value.type "dict") = false := by decide
        have isl2 : (s.heap.push (setO (!w.params.followText "set-order"))).IsList l vs := ⟨_, gl2, rfl, nl, rfl⟩
        unfold Builtin.«set.__init__» noKeywords Builtin.Frozenset.updateFrom
        generalize gpi : pyIter = pit
        wp_walk
        subst gpi
        refine wpAny_pyIter_list isl2 (wpAny_bind (wpAny_runValue ?_))
        have ltl : l < s.heap.objs.size := Heap.lt_size gl
        have szp : (s.heap.push (setO (!w.params.followText "set-order"))).objs.size = s.heap.objs.size + 1 := Heap.size_push ..
        refine loopK ((Walks.list (show A.in1.in1.in1.handled = none by simp [calm]) _ l (by rw [szp]; exact Nat.ne_of_lt (Nat.lt_succ_of_lt ltl)) vs).toS) s.heap.objs.size
          (by rw [szp]; simp only [List.mem_cons, List.not_mem_nil, or_false, not_or]; exact ⟨Nat.ne_of_lt (Nat.lt_succ_self _), Nat.ne_of_gt ltl⟩) ks sz few val (vs.size - 0) 0 _ (by omega) (Nat.zero_le _) ⟨⟨_, Heap.get?_push_size _ rfl, rfl, rfl⟩, isl2.push _⟩ ?hS0 ?hR
        case hS0 => exact fresh_ok (Heap.get?_push_of_some _ at0)
        case hR =>
          intro s' mv fin
          obtain ⟨h', g', d', tk', os'⟩ := s'
          obtain rfl : g' = s.gens := mv.gens
          obtain rfl : d' = s.drawn := mv.drawn
          obtain rfl : os' = s.os := mv.os
          show wpAny _ _ _ _ _ _
          refine wpAny_pure ?_
          show wpAny _ _ (ret Value.none) _ _ _
          refine wpAny_pure ⟨rfl, h', tk', rfl, fin, fun b o hb e => mv.heap b o ?_ (Heap.get?_push_of_some _ (Heap.get?_push_of_some _ e))⟩
          rw [szp]
          simp only [List.mem_cons, List.not_mem_nil, or_false, not_or]
          exact ⟨Nat.ne_of_lt hb, Nat.ne_of_lt (Nat.lt_succ_of_lt hb)⟩
      · cases r₂ with
        | error e => exact hr₂
        | ok fl₂ => cases fl₂ with
          | ret r =>
            obtain ⟨rfl, h', tk, rfl, fin, kp⟩ := hr₂
            repeat (any_goals (first | assumption | wp_step))
            exact done _ _ fin kp
          | _ => exact hr₂.elim
    | _ => exact hr.elim
end
end Ls
namespace Ls
open PySem L2 PySem.Spec PyProof.Rows
/-- the keys' order -/
def kLe : L2.Key → L2.Key → Bool
  | .inl i, .inl j => decide (i ≤ j)
  | .inr x, .inr y => !decide (y.cps.toList < x.cps.toList)
  | _, _ => false
def allI (ks : List L2.Key) : Prop := ∃ ns : List Int, ks = ns.map Sum.inl
def allS (ks : List L2.Key) : Prop := ∃ xs : List Str, ks = xs.map Sum.inr
theorem vals_keys : ∀ {ks : List L2.Key} {us : List Value}, Vals (ks.map kV) us → us.map kv? = ks.map some
  | [], _, .nil => rfl
  | .inl i :: ks, _, .cons (b := u) r t => by
    obtain ⟨tk, rfl⟩ := r
    simp [kv?, vals_keys t]
  | .inr i :: ks, _, .cons (b := u) r t => by
    obtain ⟨tk, rfl⟩ := r
    simp [kv?, vals_keys t]
theorem dd_mem : ∀ (l acc : List L2.Key) (k : L2.Key), k ∈ l.foldl addK acc ↔ k ∈ acc ∨ k ∈ l
  | [], acc, k => by simp
  | x :: l, acc, k => by
    rw [List.foldl_cons, dd_mem l, List.mem_cons]
    by_cases h : x ∈ acc
    · rw [addK_in h]
      constructor
      · rintro (a | a)
        · exact .inl a
        · exact .inr (.inr a)
      · rintro (a | a | a)
        · exact .inl a
        · subst a; exact .inl h
        · exact .inr a
    · rw [addK_out h, List.mem_cons]
      constructor
      · rintro ((a | a) | a)
        · exact .inr (.inl a)
        · exact .inl a
        · exact .inr (.inr a)
      · rintro (a | a | a)
        · exact .inl (.inr a)
        · exact .inl (.inl a)
        · exact .inr a
theorem dd_in {ks : List L2.Key} {k : L2.Key} (h : k ∈ dd ks) : k ∈ ks := by
  rcases (dd_mem ks [] k).mp h with a | a
  · cases a
  · exact a
theorem dd_len (ks : List L2.Key) : (dd ks).length ≤ ks.length := by
  have := fold_len ks []
  simpa [dd] using this
section
variable {P : Program} {w : World} {A : Around} {E : Value → Shared → Prop} {s : Shared}
theorem len_setK {a : Addr} {ks : List L2.Key} {Q : Value → Shared → Prop} (R : SetK w s.heap a ks) (h : Q (.int ks.length (s.toks + 1)) { s with toks := s.toks + 1 + 1 }) : wpAny (model P w) A (call (.builtin "len") [.ref a]) Q E s := by
  obtain ⟨o, es, ep, t, ho, hex, hd, g, pk, nd, hb, hf, hr, hl⟩ := R
  have hn : es.size = ks.length := by rw [← pk.length_eq, List.length_map, Array.length_toList]
  refine call_len_set ho hex hd hf (by unfold scanBound at hb; omega) ?_
  rw [hn]
  exact h
theorem kv_int {v : Value} {i : Int} (h : kv? v = some (.inl i)) : ∃ t, v = .int i t := by
  cases v <;> simp only [kv?, reduceCtorEq, Option.some.injEq, Sum.inl.injEq] at h
  subst h; exact ⟨_, rfl⟩
theorem kv_str {v : Value} {x : Str} (h : kv? v = some (.inr x)) : ∃ t, v = .str x t := by
  cases v <;> simp only [kv?, reduceCtorEq, Option.some.injEq, Sum.inr.injEq] at h
  subst h; exact ⟨_, rfl⟩
theorem ints_of_kv : ∀ {vs : List Value} {ns : List Int}, vs.map kv? = (ns.map Sum.inl).map some → IntsAre vs ns
  | [], [], _ => .nil
  | v :: vs, n :: ns, h => by
    simp only [List.map_cons, List.cons.injEq] at h
    obtain ⟨t, rfl⟩ := kv_int h.1
    exact .cons n t (ints_of_kv h.2)
  | [], _ :: _, h => by simp at h
  | _ :: _, [], h => by simp at h
theorem strs_of_kv : ∀ {vs : List Value} {ns : List Str}, vs.map kv? = (ns.map Sum.inr).map some → StrsAre vs ns
  | [], [], _ => .nil
  | v :: vs, n :: ns, h => by
    simp only [List.map_cons, List.cons.injEq] at h
    obtain ⟨t, rfl⟩ := kv_str h.1
    exact .cons n t (strs_of_kv h.2)
  | [], _ :: _, h => by simp at h
  | _ :: _, [], h => by simp at h
theorem kV_int (ns : List Int) : (ns.map Sum.inl).map kV = ns.map V.int := by rw [List.map_map]; rfl
theorem kV_str (ns : List Str) : (ns.map Sum.inr).map kV = ns.map V.str := by rw [List.map_map]; rfl
theorem rising_all : ∀ (l : List Str) (p : Str), risingS p l = true → (∀ y ∈ l, ¬ y.cps.toList < p.cps.toList) ∧ (l.map (Sum.inr : Str → L2.Key)).Pairwise (fun a b => kLe a b = true)
  | [], p, _ => ⟨fun y hy => by simp at hy, by simp⟩
  | x :: r, p, h => by
    simp only [risingS, Bool.and_eq_true, Bool.not_eq_true', ltCps_eq, decide_eq_false_iff_not] at h
    obtain ⟨h1, h2⟩ := rising_all r x h.2
    refine ⟨fun y hy => ?_, ?_⟩
    · rcases List.mem_cons.mp hy with rfl | hy
      · exact h.1
      · have a1 := List.not_lt.mp h.1
        have a2 := List.not_lt.mp (h1 y hy)
        exact List.not_lt.mpr (List.le_trans a1 a2)
    · rw [List.map_cons, List.pairwise_cons]
      refine ⟨fun k hk => ?_, h2⟩
      obtain ⟨y, hy, rfl⟩ := List.mem_map.mp hk
      show (!decide (y.cps.toList < x.cps.toList)) = true
      rw [decide_eq_false (h1 y hy)]; rfl
theorem sortedS_pw {l : List Str} (h : sortedS l = true) : (l.map (Sum.inr : Str → L2.Key)).Pairwise (fun a b => kLe a b = true) := by
  cases l with
  | nil => simp
  | cons x r =>
    have h2 : risingS x r = true := h
    obtain ⟨h1, h3⟩ := rising_all r x h2
    rw [List.map_cons, List.pairwise_cons]
    refine ⟨fun k hk => ?_, h3⟩
    obtain ⟨y, hy, rfl⟩ := List.mem_map.mp hk
    show (!decide (y.cps.toList < x.cps.toList)) = true
    rw [decide_eq_false (h1 y hy)]; rfl
theorem permSome {os : List (Option L2.Key)} {ks : List L2.Key} (h : os.Perm (ks.map some)) : ∃ ks' : List L2.Key, os = ks'.map some ∧ ks'.Perm ks := by
  refine ⟨os.map fun o => o.getD (.inl 0), ?_, ?_⟩
  · rw [List.map_map]
    conv => lhs; rw [← List.map_id os]
    refine List.map_congr_left fun o ho => ?_
    obtain ⟨k, _, rfl⟩ := List.mem_map.mp (h.mem_iff.mp ho)
    rfl
  · have q := h.map fun o => o.getD (.inl 0)
    rw [List.map_map] at q
    simpa [Function.comp_def] using q
theorem allI_perm {ks : List L2.Key} {ns : List Int} (h : ks.Perm (ns.map Sum.inl)) : allI ks := by
  refine ⟨ks.map fun k => match k with | .inl i => i | .inr _ => 0, ?_⟩
  rw [List.map_map]
  conv => lhs; rw [← List.map_id ks]
  refine List.map_congr_left fun k hk => ?_
  obtain ⟨i, _, rfl⟩ := List.mem_map.mp (h.mem_iff.mp hk)
  rfl
theorem allS_perm {ks : List L2.Key} {ns : List Str} (h : ks.Perm (ns.map Sum.inr)) : allS ks := by
  refine ⟨ks.map fun k => match k with | .inr x => x | .inl _ => Str.empty, ?_⟩
  rw [List.map_map]
  conv => lhs; rw [← List.map_id ks]
  refine List.map_congr_left fun k hk => ?_
  obtain ⟨i, _, rfl⟩ := List.mem_map.mp (h.mem_iff.mp hk)
  rfl
/-- sorted(a set of ints, or of texts) -/
theorem sort_setK {a : Addr} {ks : List L2.Key} {Q : Value → Shared → Prop} (R : SetK w s.heap a ks) (calm : A.handled = none) (few : ks.length < 64) (kin : allI ks ∨ allS ks)
    (h : ∀ s' p (out : Array Value) (c : Nat) (ls : List L2.Key), (∀ b o, s.heap.get? b = some o → s'.heap.get? b = some o) → s'.gens = s.gens → s'.os = s.os → s.heap.objs.size ≤ p →
      s'.heap.get? p = some (seqObj "list" out c) → Vals (ls.map kV) out.toList → ls.Perm ks → ls.Pairwise (fun x y => kLe x y = true) → Q (.ref p) s') : wpAny (model P w) A (call (.builtin "sorted") [.ref a]) Q E s := by
  obtain ⟨o, es, ep, t, ho, hex, hd, g, pk, nd, hb, hf, hr, hl⟩ := R
  refine Calls.call_function_entry kind_sorted plain_sorted entry_sorted (args_sorted1 _) ?_
  unfold Builtin.«sorted»
  refine wpAny_bind (m := checkCount "sorted" 1 1 _) (wpAny_pure (wpAny_bind (collect_set (A := A.in1) calm ⟨o, ho, hex.1, hd⟩ hf hb hr hl fun s1 vs k1 hz g1 o1 pm => ?_)))
  have pv : (vs.map kv?).Perm (ks.map some) := by
    have q := pm.map kv?
    rw [List.map_map] at q
    have e2 : es.toList.map (kv? ∘ fun e => e.2) = (es.toList.map kOf).map some := by
      rw [List.map_map]
      refine List.map_congr_left fun e he => ?_
      obtain ⟨k, h1, _⟩ := g e he
      show kv? e.2 = some (kOf e)
      unfold kOf; rw [h1]; rfl
    rw [e2] at q
    exact q.trans (pk.map some)
  have hvl : vs.length = ks.length := by have := pv.length_eq; simpa using this
  obtain ⟨ks', eks, pks⟩ : ∃ ks' : List L2.Key, vs.map kv? = ks'.map some ∧ ks'.Perm ks := permSome pv
  refine wpAny_bind (wpAny_newList ?_ (by rw [hvl, sizeLine_eq]; omega))
  have at1 : (s1.heap.push (seqObj "list" vs.toArray 0)).get? s1.heap.objs.size = some (seqObj "list" vs.toArray 0) := Heap.get?_push_size _ rfl
  have old : ∀ (out : Array Value) (b : Addr) (u : Obj), s.heap.get? b = some u → (sortedHeap (s1.heap.push (seqObj "list" vs.toArray 0)) s1.heap.objs.size vs out).get? b = some u := fun out b u e => by
    have q := k1 b u e
    have lt := Heap.lt_size q
    rw [sortedHeap_old (Nat.ne_of_lt lt) (by rw [size_push']; exact Nat.lt_succ_of_lt lt)]
    exact Heap.get?_push_of_some _ q
  rcases kin with ⟨ns, rfl⟩ | ⟨xs, rfl⟩
  · obtain ⟨ns', rfl⟩ : allI ks' := allI_perm pks
    refine wpAny_bind (wpAny_holding (wpAny_call_entry slot_list_sort ⟨_, at1, rfl⟩ entry_list_sort (list_sort_tree at1 (ints_of_kv eks) (by rw [hvl]; exact few) fun out ls a1 a2 a3 => ⟨_, rfl, ?_⟩) (args_list_sort _)))
    obtain ⟨c, hc⟩ := sortedHeap_at (vs := vs) (out := out) at1
    refine wpAny_pure ⟨_, rfl, h _ s1.heap.objs.size out c (ls.map Sum.inl) (old out) g1 o1 hz hc (by rw [kV_int]; exact vals_of_ints a1) ((a2.map _).trans pks) ?_⟩
    rw [List.pairwise_map]
    exact a3.imp fun q => decide_eq_true q
  · obtain ⟨ns', rfl⟩ : allS ks' := allS_perm pks
    have sa : StrsAre vs ns' := strs_of_kv eks
    refine wpAny_bind (wpAny_holding (wpAny_call_entry slot_list_sort ⟨_, at1, rfl⟩ entry_list_sort (list_sort_treeK strKind_oneLt at1 sa.keysOf (fun v₁ v₂ rest e => keyKind_strs (by rw [← e]; exact sa)) (by rw [hvl]; exact few) fun st' hp hs => ⟨_, rfl, ?_⟩) (args_list_sort _)))
    obtain ⟨ls, a1, a2, a3⟩ := sorted_out_str sa hp hs
    obtain ⟨c, hc⟩ := sortedHeap_at (vs := vs) (out := (arrOf st').map (·.2)) at1
    exact wpAny_pure ⟨_, rfl, h _ s1.heap.objs.size _ c (ls.map Sum.inr) (old _) g1 o1 hz hc (by rw [kV_str]; exact vals_of_strs a1) ((a2.map _).trans pks) (sortedS_pw a3)⟩
end
section
variable {X : Cx} {a : Expr} {ta : TE} {p p2 q pos : Pos}
def tLenSetK (K : PySem.W.Frag) (ta : TE) : TE := fun σ H Q => ta σ H fun x H1 => ∃ (l : Addr) (ks : List L2.Key), x = .ref l ∧ SqL K H1 l (ks.map kV) ∧ ks.length < 64 ∧ Q (.int (dd ks).length) H1
theorem vals_at {ks : List L2.Key} {its : List Value} (r : Vals (ks.map kV) its) (i : Nat) (v : Value) (h : its.toArray[i]? = some v) : ∃ k, ks[i]? = some k ∧ kv? v = some k := by
  have e := vals_keys r
  have h1 : (its.map kv?)[i]? = some (kv? v) := by
    have h : its[i]? = some v := by simpa using h
    rw [List.getElem?_map, h]; rfl
  rw [e, List.getElem?_map] at h1
  obtain ⟨k, hk, hv⟩ := Option.map_eq_some_iff.mp h1
  exact ⟨k, hk, hv.symm⟩
theorem pe_lenSetK (hc : X.calm = true) (gl : Gl X "len") (ml : X.mg "len" = none) (gs : Gl X "set") (ms : X.mg "set" = none) (ha : PE X a ta)
    (na : starEach [a] X.env = (false, eval a X.env) :: starEach [] X.env := by rfl) : PE X (.Call (.Name "len" p) [.Call (.Name "set" p2) [a] [] q] [] pos) (tLenSetK X.K ta) := by
  refine ⟨fun pins s σ H Q I h => Call_ (ld_blt I gl ml boot_len (PyProof.Rows.callWith_builtin1 (PyProof.Rows.args_cons (Call_ (ld_blt I gs ms boot_set
    (PyProof.Rows.callWith_type1 (PyProof.Rows.args_cons (thn (ha.run pins s σ H _ I h) fun v s1 ⟨x, H1, I1, r1, q1⟩ => PyProof.Rows.args_nil ?_) na) na rfl))) rfl) rfl rfl))⟩
  obtain ⟨l, ks, rfl, hq, few, q1⟩ := q1
  cases r1
  obtain ⟨its, r, pl, hz⟩ := I1.list hq
  have hlen : its.toArray.size = ks.length := by rw [List.size_toArray, ← r.length, List.length_map]
  refine set_of_list (ks := ks) (I1.ok.hd hc) pl.isList (by rw [hlen]; omega) hlen.symm (vals_at r) fun h' tk R kp => PyProof.Rows.args_nil ?_
  have I2 : Inv X pins σ H1 { s1 with heap := h', toks := tk } := I1.kept fun b o e => kp b o (Heap.lt_size e) e
  exact len_setK R ⟨.int (dd ks).length, H1, I2.tok _, ⟨_, rfl⟩, q1⟩
def tSrtSetK (K : PySem.W.Frag) (ta : TE) : TE := fun σ H Q => ta σ H fun x H1 => ∃ (l : Addr) (ks : List L2.Key), x = .ref l ∧ SqL K H1 l (ks.map kV) ∧ ks.length < 64 ∧ (allI ks ∨ allS ks) ∧
  ∀ (ls : List L2.Key) (p : Addr), ls.Perm (dd ks) → ls.Pairwise (fun x y => kLe x y = true) → H1 p = none → Q (.ref p) (upd H1 p (.lst (ls.map kV)))
theorem pe_srtSetK (hc : X.calm = true) (gl : Gl X "sorted") (ml : X.mg "sorted" = none) (gs : Gl X "set") (ms : X.mg "set" = none) (ha : PE X a ta)
    (na : starEach [a] X.env = (false, eval a X.env) :: starEach [] X.env := by rfl) : PE X (.Call (.Name "sorted" p) [.Call (.Name "set" p2) [a] [] q] [] pos) (tSrtSetK X.K ta) := by
  refine ⟨fun pins s σ H Q I h => Call_ (ld_blt I gl ml boot_sorted (PyProof.Rows.callWith_builtin1 (PyProof.Rows.args_cons (Call_ (ld_blt I gs ms boot_set
    (PyProof.Rows.callWith_type1 (PyProof.Rows.args_cons (thn (ha.run pins s σ H _ I h) fun v s1 ⟨x, H1, I1, r1, q1⟩ => PyProof.Rows.args_nil ?_) na) na rfl))) rfl) rfl rfl))⟩
  obtain ⟨l, ks, rfl, hq, few, kin, q1⟩ := q1
  cases r1
  obtain ⟨its, r, pl, hz⟩ := I1.list hq
  have hlen : its.toArray.size = ks.length := by rw [List.size_toArray, ← r.length, List.length_map]
  refine set_of_list (ks := ks) (I1.ok.hd hc) pl.isList (by rw [hlen]; omega) hlen.symm (vals_at r) fun h' tk R kp => PyProof.Rows.args_nil ?_
  have I2 : Inv X pins σ H1 { s1 with heap := h', toks := tk } := I1.kept fun b o e => kp b o (Heap.lt_size e) e
  have kin2 : allI (dd ks) ∨ allS (dd ks) := by
    rcases kin with ⟨ns, rfl⟩ | ⟨xs, rfl⟩
    · left
      refine ⟨(dd (ns.map Sum.inl)).map fun k => match k with | .inl i => i | .inr _ => 0, ?_⟩
      rw [List.map_map]
      conv => lhs; rw [← List.map_id (dd (ns.map Sum.inl))]
      refine List.map_congr_left fun k hk => ?_
      obtain ⟨i, _, rfl⟩ := List.mem_map.mp (dd_in hk)
      rfl
    · right
      refine ⟨(dd (xs.map Sum.inr)).map fun k => match k with | .inr x => x | .inl _ => Str.empty, ?_⟩
      rw [List.map_map]
      conv => lhs; rw [← List.map_id (dd (xs.map Sum.inr))]
      refine List.map_congr_left fun k hk => ?_
      obtain ⟨i, _, rfl⟩ := List.mem_map.mp (dd_in hk)
      rfl
  have few2 : (dd ks).length < 64 := Nat.lt_of_le_of_lt (dd_len ks) few
  refine sort_setK R (I2.ok.hd hc) few2 kin2 fun s' pp out c ls k g o hp hat hv pm pw => ?_
  have hn : H1 pp = none := I2.hok.fresh hp
  have hlen2 : (ls.map kV).length ≤ sizeLine := by rw [List.length_map, pm.length_eq, sizeLine_eq]; omega
  have J := I2.call (ch := []) (h' := s'.heap) (g' := s'.gens) (d' := s'.drawn) (t' := s'.toks) (H' := upd H1 pp (.lst (ls.map kV))) (Un.laid k hp hn) (I2.hok.laid k hp ⟨hlen2, out.toList, c, hv, hat⟩) (by rw [g]; exact I2.bare) (fun _ y => nomatch y)
  have e : s' = { s1 with heap := s'.heap, gens := s'.gens, drawn := s'.drawn, toks := s'.toks } := by
    obtain ⟨h1, g1, d1, t1, o1⟩ := s'
    obtain ⟨h2, g2, d2, t2, o2⟩ := s1
    cases o
    rfl
  rw [e]
  exact ⟨.ref pp, _, J, rfl, q1 ls pp pm pw hn⟩
end
end Ls
namespace Ls
open PySem L2 PySem.Spec PyProof.Rows
section
variable {prog : Program} {w : World} {A : Around} {E : Value → Shared → Prop} {s : Shared}
theorem collect_tup {l : Addr} {vs : List Value} {Q : List Value → Shared → Prop} (isl : s.heap.IsTuple l vs.toArray)
    (h : Q vs { s with heap := (s.heap.push (seqObj "list" #[] 0)).update s.heap.objs.size (Obj.mapSeq (· ++ vs.toArray)) }) (small : vs.length ≤ sizeLine) : wpAny (model prog w) A (collect (.ref l)) Q E s := by
  obtain ⟨o, ho, hc, n, hd⟩ := id isl
  unfold collect
  refine wpAny_bind (wpAny_runValue (codeAny_builtin entry_proto_collect' ?_))
  show wpAny _ _ (do again (.builtin "list.__iadd__" ⟨[← newList [], .ref l], []⟩)) _ _ s
  refine wpAny_bind (wpAny_newList (wpAny_pure ⟨Code.quiet_builtin _ (by decide +kernel), codeAny_builtin entry_list_iadd' ?_⟩))
  show wpAny _ _ (Builtin.List.listExtendWith (.ref s.heap.objs.size) (.ref l) (.ref s.heap.objs.size)) _ _ { s with heap := s.heap.push (seqObj "list" #[] 0) }
  unfold Builtin.List.listExtendWith
  have ho2 : (s.heap.push (seqObj "list" #[] 0)).get? l = some o := Heap.get?_push_of_some _ ho
  have new : (s.heap.push (seqObj "list" #[] 0)).get? s.heap.objs.size = some (seqObj "list" #[] 0) := Heap.get?_push_size _ rfl
  refine wpAny_bind (wpAny_typeOf (T := "tuple") ⟨o, ho2, hc⟩ ?_)
  rw [if_pos (by rw [show (Value.type "tuple" == Value.type "tuple") = true from rfl]; simp)]
  refine wpAny_bind (listItems_at ho2 hd (wpAny_bind (listItems_at (xs := #[]) (n := 0) new rfl ?_)))
  rw [if_neg (by simp)]
  refine wpAny_bind (listUpdate_at (xs := #[]) (n := 0) new rfl (wpAny_pure ?_) (Nat.zero_le _) (by show (#[] ++ vs.toArray).size ≤ sizeLine + 1; simp only [Array.size_append, List.size_toArray, List.length_nil]; omega))
  show wpAny (model prog w) A (do
      let o ← load s.heap.objs.size
      match o.data with
      | .seq xs _ => pure xs.toList
      | _ => unsupported "internal:collect") Q E { s with heap := (s.heap.push (seqObj "list" #[] 0)).update s.heap.objs.size (Obj.mapSeq (· ++ vs.toArray)) }
  refine wpAny_bind (wpAny_load (get?_update_seq new _) ?_)
  show wpAny _ _ (pure ((#[] : Array Value) ++ vs.toArray).toList) Q E _
  rw [show ((#[] : Array Value) ++ vs.toArray).toList = vs by simp]
  exact wpAny_pure h
/-- sorted(a tuple of ints, or of texts) -/
theorem sort_tupK {a : Addr} {vs : List Value} {ks : List L2.Key} {Q : Value → Shared → Prop} (isl : s.heap.IsTuple a vs.toArray) (eks : vs.map kv? = ks.map some) (few : ks.length < 64) (kin : allI ks ∨ allS ks)
    (h : ∀ h' p (out : Array Value) (c : Nat) (ls : List L2.Key), (∀ b o, s.heap.get? b = some o → h'.get? b = some o) → s.heap.objs.size ≤ p →
      h'.get? p = some (seqObj "list" out c) → Vals (ls.map kV) out.toList → ls.Perm ks → ls.Pairwise (fun x y => kLe x y = true) → Q (.ref p) { s with heap := h' }) : wpAny (model prog w) A (call (.builtin "sorted") [.ref a]) Q E s := by
  have hvl : vs.length = ks.length := by have := congrArg List.length eks; simpa using this
  refine Calls.call_function_entry kind_sorted plain_sorted entry_sorted (args_sorted1 _) ?_
  unfold Builtin.«sorted»
  refine wpAny_bind (m := checkCount "sorted" 1 1 _) (wpAny_pure (wpAny_bind (collect_tup (A := A.in1) isl ?_ (by rw [hvl, sizeLine_eq]; omega))))
  generalize hh1 : (s.heap.push (seqObj "list" #[] 0)).update s.heap.objs.size (Obj.mapSeq (· ++ vs.toArray)) = h1
  have sz1 : h1.objs.size = s.heap.objs.size + 1 := by rw [← hh1]; simp [Heap.update, size_push']
  have k1 : ∀ b o, s.heap.get? b = some o → h1.get? b = some o := fun b o e => by
    rw [← hh1]
    have lt := Heap.lt_size e
    have q := Heap.SameBut.update (s.heap.push (seqObj "list" #[] 0)) s.heap.objs.size (Obj.mapSeq (· ++ vs.toArray))
    rw [q.2 b (Nat.ne_of_lt lt)]
    exact Heap.get?_push_of_some _ e
  refine wpAny_bind (wpAny_newList ?_ (by rw [hvl, sizeLine_eq]; omega))
  have at1 : (h1.push (seqObj "list" vs.toArray 0)).get? h1.objs.size = some (seqObj "list" vs.toArray 0) := Heap.get?_push_size _ rfl
  have old : ∀ (out : Array Value) (b : Addr) (u : Obj), s.heap.get? b = some u → (sortedHeap (h1.push (seqObj "list" vs.toArray 0)) h1.objs.size vs out).get? b = some u := fun out b u e => by
    have q := k1 b u e
    have lt := Heap.lt_size q
    rw [sortedHeap_old (Nat.ne_of_lt lt) (by rw [size_push']; exact Nat.lt_succ_of_lt lt)]
    exact Heap.get?_push_of_some _ q
  have hz : s.heap.objs.size ≤ h1.objs.size := by rw [sz1]; exact Nat.le_succ _
  rcases kin with ⟨ns, rfl⟩ | ⟨xs, rfl⟩
  · refine wpAny_bind (wpAny_holding (wpAny_call_entry slot_list_sort ⟨_, at1, rfl⟩ entry_list_sort (list_sort_tree at1 (ints_of_kv eks) (by rw [hvl]; exact few) fun out ls a1 a2 a3 => ⟨_, rfl, ?_⟩) (args_list_sort _)))
    obtain ⟨c, hc⟩ := sortedHeap_at (vs := vs) (out := out) at1
    refine wpAny_pure ⟨_, rfl, h _ h1.objs.size out c (ls.map Sum.inl) (old out) hz hc (by rw [kV_int]; exact vals_of_ints a1) (a2.map _) ?_⟩
    rw [List.pairwise_map]
    exact a3.imp fun q => decide_eq_true q
  · have sa : StrsAre vs xs := strs_of_kv eks
    refine wpAny_bind (wpAny_holding (wpAny_call_entry slot_list_sort ⟨_, at1, rfl⟩ entry_list_sort (list_sort_treeK strKind_oneLt at1 sa.keysOf (fun v₁ v₂ rest e => keyKind_strs (by rw [← e]; exact sa)) (by rw [hvl]; exact few) fun st' hp hs => ⟨_, rfl, ?_⟩) (args_list_sort _)))
    obtain ⟨ls, a1, a2, a3⟩ := sorted_out_str sa hp hs
    obtain ⟨c, hc⟩ := sortedHeap_at (vs := vs) (out := (arrOf st').map (·.2)) at1
    exact wpAny_pure ⟨_, rfl, h _ h1.objs.size _ c (ls.map Sum.inr) (old _) hz hc (by rw [kV_str]; exact vals_of_strs a1) (a2.map _) (sortedS_pw a3)⟩
end
def rSortTK (K : PySem.W.Frag) : List V → Hp → VK → Prop := fun xs H Q => ∃ (l : Addr) (ks : List L2.Key), xs = [V.ref l] ∧ SqT K H l (ks.map kV) ∧ ks.length < 64 ∧ (allI ks ∨ allS ks) ∧
  ∀ (ls : List L2.Key) (p : Addr), ls.Perm ks → ls.Pairwise (fun x y => kLe x y = true) → H p = none → Q (.ref p) (upd H p (.lst (ls.map kV)))
theorem cr_sortTK {X : Cx} : CallR X (.builtin "sorted") (rSortTK X.K) := by
  intro pins s σ H xs us Q I r h
  obtain ⟨l, ks, rfl, hq, few, kin, q1⟩ := h
  obtain rfl := Vals.ref1 r
  obtain ⟨its, r, pl, hz⟩ := I.tuple hq
  refine sort_tupK pl (vals_keys r) few kin fun h' pp out c ls k hp hat hv pm pw => ?_
  have hn : H pp = none := I.hok.fresh hp
  have hlen2 : (ls.map kV).length ≤ sizeLine := by rw [List.length_map, pm.length_eq, sizeLine_eq]; omega
  exact ⟨.ref pp, _, I.laid (a := pp) (o := .lst (ls.map kV)) (t' := s.toks) k hp ⟨hlen2, out.toList, c, hv, hat⟩, rfl, q1 ls pp pm pw hn⟩
def rSortR (K : PySem.W.Frag) : List V → Hp → VK → Prop := fun xs H Q => ∃ (l : Addr) (bs : List (V × List Int)), xs = [V.ref l] ∧ SqL K H l (bs.map (·.1)) ∧ (∀ b ∈ bs, ∃ t, b.1 = V.ref t ∧ SqT K H t (b.2.map V.int) ∧ b.2 ≠ []) ∧ bs.length ≤ 1000 ∧
  ∀ (cs : List (V × List Int)) (p : Addr), cs.Perm bs → cs.Pairwise (fun x y => ¬ y.2 < x.2) → H p = none → Q (.ref p) (upd H p (.lst (cs.map (·.1))))
def encR (b : V × List Int) : PyData := .tuple (b.2.map .int)
theorem dp_ints {K : PySem.W.Frag} {H : Hp} : ∀ ns : List Int, DpAll K H (ns.map V.int) (ns.map PyData.int)
  | [] => .nil
  | n :: r => .cons (.int n) (dp_ints r)
theorem eachOf : ∀ {bs : List (V × List Int)} {its : List Value}, Vals (bs.map (·.1)) its → PySem.W.EachIs (fun v (b : V × List Int) => RelV b.1 v) its bs
  | [], _, .nil => .nil
  | _ :: _, _, .cons r t => .cons r (eachOf t)
theorem eachR {X : Cx} {pins : List (Addr × Obj)} {σ : L2.St} {H : Hp} {s : Shared} (I : Inv X pins σ H s) : ∀ {bs : List (V × List Int)} {its : List Value}, (∀ b ∈ bs, ∃ t, b.1 = V.ref t ∧ SqT X.K H t (b.2.map V.int) ∧ b.2 ≠ []) →
    PySem.W.EachIs (fun v (b : V × List Int) => RelV b.1 v) its bs → PySem.W.EachIs (fun v (b : V × List Int) => ∃ as, Reads s.heap v (encR b) as) its bs
  | _, _, _, .nil => .nil
  | b :: bs, _, h, .cons r t => by
    obtain ⟨tt, e, hs, _⟩ := h b List.mem_cons_self
    refine .cons ?_ (eachR I (fun c hc => h c (List.mem_cons_of_mem _ hc)) t)
    exact Dp.reads I (encR b) b.1 _ (by rw [e]; exact .tup hs (dp_ints b.2)) r
theorem aliked : ∀ xs ys : List Int, PySem.W.alikeAll (xs.map PyData.int) (ys.map PyData.int) = true
  | [], _ => by simp [PySem.W.alikeAll]
  | _ :: _, [] => by simp [PySem.W.alikeAll]
  | x :: xs, y :: ys => by simp [PySem.W.alikeAll, PySem.W.alike, aliked xs ys]
theorem depthInts : ∀ xs : List Int, PyData.depthAll (xs.map PyData.int) = 0
  | [] => rfl
  | x :: xs => by simp [PyData.depthAll, PyData.depth, depthInts xs]
theorem leEnc : PySem.W.dataLe false encR = fun p q => !decide (q.2 < p.2) := by
  funext p q
  show (!PySem.W.dataLt (.tuple (q.2.map .int)) (.tuple (p.2.map .int))) = _
  rw [PySem.W.dataLt_tuple]
  show (!PySem.W.rowLt (q.2.map .int) (p.2.map .int)) = _
  rw [PySem.W.dataLt_ints]
theorem eachBack {cs : List (V × List Int)} {out : List Value} (h : PySem.W.EachIs (fun v (b : V × List Int) => RelV b.1 v) out cs) : Vals (cs.map (·.1)) out := by
  induction h with
  | nil => exact .nil
  | cons r t ih => exact .cons r ih
theorem cr_sortR {X : Cx} (hu : X.A.units + 64 < cLine) : CallR X (.builtin "sorted") (rSortR X.K) := by
  intro pins s σ H xs us Q I r h
  obtain ⟨l, bs, rfl, hq, hb, few, q1⟩ := h
  obtain rfl := Vals.ref1 r
  obtain ⟨its, r, pl, hz⟩ := I.list hq
  have e1 := eachOf r
  refine PySem.W.sorted_data (enc := encR) pl.isList e1 (eachR I hb e1) (PySem.W.AllAlike.of fun b b' => by simp [encR, PySem.W.alike, aliked]) (.inl fun d hd => ?_) (by rw [sizeLine_eq]; omega) (fun b hbm => ?_) fun out hl eo => ?_
  · obtain ⟨b, hbm, rfl⟩ := List.mem_map.mp hd
    obtain ⟨_, _, _, ne⟩ := hb b hbm
    cases e : b.2 with
    | nil => exact absurd e ne
    | cons x r => exact ⟨.int x, r.map .int, by unfold encR; rw [e]; rfl⟩
  · have : (encR b).depth = 1 := by unfold encR; simp [PyData.depth, depthInts]
    rw [this]; omega
  · rw [leEnc] at eo
    have pm := List.mergeSort_perm bs (fun p q : V × List Int => !decide (q.2 < p.2))
    have pw : (bs.mergeSort (fun p q : V × List Int => !decide (q.2 < p.2))).Pairwise (fun x y => ¬ y.2 < x.2) := by
      have := List.pairwise_mergeSort (le := fun p q : V × List Int => !decide (q.2 < p.2)) (fun a b c h1 h2 => by
        simp only [Bool.not_eq_true', decide_eq_false_iff_not] at h1 h2 ⊢
        exact List.not_lt.mpr (List.le_trans (List.not_lt.mp h1) (List.not_lt.mp h2))) (fun a b => by
        simp only [Bool.or_eq_true, Bool.not_eq_true', decide_eq_false_iff_not]
        by_cases h : b.2 < a.2
        · exact .inr (List.lt_asymm h)
        · exact .inl h) bs
      exact this.imp fun h => by simpa using h
    obtain ⟨ep, he'⟩ := PyProof.Rows.sortedAll_at s.heap its (List.toArray out)
    have hlen : ((bs.mergeSort (fun p q : V × List Int => !decide (q.2 < p.2))).map (·.1)).length ≤ sizeLine := by rw [List.length_map, pm.length_eq, sizeLine_eq]; omega
    exact ⟨.ref _, _, I.laid (a := s.heap.objs.size + 1) (o := .lst ((bs.mergeSort (fun p q : V × List Int => !decide (q.2 < p.2))).map (·.1))) (t' := s.toks) (fun _ _ => PyProof.Rows.sortedAll_old) (Nat.le_succ _) ⟨hlen, out, ep, eachBack eo, he'⟩, rfl, q1 _ _ pm pw (I.hok.fresh (Nat.le_succ _))⟩
end Ls
namespace Lc
open PySem L2

def ins1 {α : Type} (le : α → α → Bool) (x : α) : List α → List α
  | [] => [x]
  | y :: r => if le x y then x :: y :: r else y :: ins1 le x r
def isort {α : Type} (le : α → α → Bool) : List α → List α
  | [] => []
  | x :: r => ins1 le x (isort le r)
structure Ord {α : Type} (le : α → α → Bool) : Prop where
  tot : ∀ a b, le a b = true ∨ le b a = true
  tr : ∀ a b c, le a b = true → le b c = true → le a c = true
  an : ∀ a b, le a b = true → le b a = true → a = b
section
variable {α : Type} {le : α → α → Bool}
theorem ins1_perm (x : α) : ∀ l, (ins1 le x l).Perm (x :: l)
  | [] => .refl _
  | y :: r => by
    simp only [ins1]
    split
    · exact .refl _
    · exact ((ins1_perm x r).cons y).trans (List.Perm.swap x y r)
theorem isort_perm : ∀ l : List α, (isort le l).Perm l
  | [] => .refl _
  | x :: r => (ins1_perm x _).trans ((isort_perm r).cons x)
theorem ins1_sorted (o : Ord le) (x : α) : ∀ l : List α, l.Pairwise (fun a b => le a b = true) → (ins1 le x l).Pairwise (fun a b => le a b = true)
  | [], _ => by simp [ins1]
  | y :: r, h => by
    rw [List.pairwise_cons] at h
    simp only [ins1]
    split
    · rename_i hxy
      rw [List.pairwise_cons]
      refine ⟨fun z hz => ?_, List.pairwise_cons.mpr h⟩
      rcases List.mem_cons.mp hz with rfl | hz
      · exact hxy
      · exact o.tr _ _ _ hxy (h.1 z hz)
    · rename_i hxy
      rw [List.pairwise_cons]
      refine ⟨fun z hz => ?_, ins1_sorted o x r h.2⟩
      rcases List.mem_cons.mp ((ins1_perm x r).mem_iff.mp hz) with rfl | hz
      · exact (o.tot _ _).resolve_right hxy |> fun q => by
          rcases o.tot y z with q | q
          · exact q
          · exact absurd q hxy
      · exact h.1 z hz
theorem isort_sorted (o : Ord le) : ∀ l : List α, (isort le l).Pairwise (fun a b => le a b = true)
  | [] => .nil
  | x :: r => ins1_sorted o x _ (isort_sorted o r)
theorem sorted_one (o : Ord le) : ∀ {l m : List α}, l.Perm m → l.Pairwise (fun a b => le a b = true) → m.Pairwise (fun a b => le a b = true) → l = m
  | [], m, p, _, _ => (List.nil_perm.mp p).symm
  | x :: l, [], p, _, _ => absurd p.length_eq (by simp)
  | x :: l, y :: m, p, h1, h2 => by
    rw [List.pairwise_cons] at h1 h2
    have e : x = y := by
      rcases List.mem_cons.mp (p.mem_iff.mp (List.mem_cons_self)) with e | hx
      · exact e
      · rcases List.mem_cons.mp (p.mem_iff.mpr (List.mem_cons_self)) with e | hy
        · exact e.symm
        · exact o.an _ _ (h1.1 y hy) (h2.1 x hx)
    subst e
    rw [sorted_one o (List.Perm.cons_inv p) h1.2 h2.2]
theorem isort_is (o : Ord le) {l m : List α} (p : m.Perm l) (h : m.Pairwise (fun a b => le a b = true)) : m = isort le l := sorted_one o (p.trans (isort_perm l).symm) h (isort_sorted o l)
end
def leI (a b : Int) : Bool := decide (a ≤ b)
def leS (a b : Str) : Bool := !decide (b.cps.toList < a.cps.toList)
def leR (a b : List Int) : Bool := !decide (b < a)
theorem ordI : Ord leI := ⟨fun a b => by simp [leI]; omega, fun a b c => by simp [leI]; omega, fun a b => by simp [leI]; omega⟩
theorem ordS : Ord leS := by
  refine ⟨fun a b => ?_, fun a b c => ?_, fun a b => ?_⟩
  · simp only [leS, Bool.not_eq_true', decide_eq_false_iff_not]
    by_cases h : b.cps.toList < a.cps.toList
    · exact .inr (List.lt_asymm h)
    · exact .inl h
  · simp only [leS, Bool.not_eq_true', decide_eq_false_iff_not]
    intro h1 h2
    exact List.not_lt.mpr (List.le_trans (List.not_lt.mp h1) (List.not_lt.mp h2))
  · simp only [leS, Bool.not_eq_true', decide_eq_false_iff_not]
    intro h1 h2
    have := List.le_antisymm (List.not_lt.mp h1) (List.not_lt.mp h2)
    obtain ⟨⟨a⟩⟩ := a
    obtain ⟨⟨b⟩⟩ := b
    have e : a = b := this
    rw [e]
theorem ordR : Ord leR := by
  refine ⟨fun a b => ?_, fun a b c => ?_, fun a b => ?_⟩
  · simp only [leR, Bool.not_eq_true', decide_eq_false_iff_not]
    by_cases h : b < a
    · exact .inr (List.lt_asymm h)
    · exact .inl h
  · simp only [leR, Bool.not_eq_true', decide_eq_false_iff_not]
    intro h1 h2
    exact List.not_lt.mpr (List.le_trans (List.not_lt.mp h1) (List.not_lt.mp h2))
  · simp only [leR, Bool.not_eq_true', decide_eq_false_iff_not]
    intro h1 h2
    exact List.le_antisymm (List.not_lt.mp h1) (List.not_lt.mp h2)

def D.rows : List D → Option (List (List Int))
  | [] => some []
  | .tup xs :: r => match D.ints xs, D.rows r with
    | some ns, some rs => some (ns :: rs)
    | _, _ => none
  | _ => none
/-- sorted: of ints, of texts, of rows of ints that are not empty -/
def srtO (lst : Bool) (xs : List D) : Option D := if xs.length < 64 then (match D.ints xs with
  | some ns => some (.lst ((isort leI ns).map .int))
  | none => match D.strs xs with
    | some ss => some (.lst ((isort leS ss).map .str))
    | none => match D.rows xs with
      | some rs => if lst && rs.all (fun r => !r.isEmpty) then some (.lst ((isort leR rs).map fun r => .tup (r.map .int))) else none
      | none => none) else none
def D.srtD : D → Option D
  | .lst xs => srtO true xs
  | .tup xs => srtO false xs
  | .dk kvs => srtO false (kvs.map fun kv => dKey kv.1)
  | _ => none
def D.keysL : List D → Option (List L2.Key) := keysOf
def kI : L2.Key → Option Int
  | .inl i => some i
  | _ => none
def kS : L2.Key → Option Str
  | .inr i => some i
  | _ => none
/-- sorted(set(..)) -/
def D.srtSet : D → Option D
  | .lst xs => if xs.length < 64 then (match D.ints xs with
    | some ns => some (.lst ((isort leI ((Ls.dd (ns.map Sum.inl)).filterMap kI)).map .int))
    | none => match D.strs xs with
      | some ss => some (.lst ((isort leS ((Ls.dd (ss.map Sum.inr)).filterMap kS)).map .str))
      | none => none) else none
  | _ => none
def D.lenSet : D → Option D
  | .lst xs => if xs.length < 64 then (keysOf xs).map fun ks => .int (Ls.dd ks).length else none
  | _ => none
section
variable {T : Tx} {F : Fm} {W : WX'} {X : Cx} {a : Expr} {p p2 q pos : Pos}
theorem ra_keys {H : Hp} {Z : Zs} {vs : List V} {ds : List D} {ks : List L2.Key} (h : RA T H Z vs ds) (e : keysOf ds = some ks) : vs = ks.map kV := keysOf_rel h e
theorem s_lenSet {t : EO} (hK : X.K = T.K) (hc : X.calm = true) (gl : Gl X "len") (ml : X.mg "len" = none) (gs : Gl X "set") (ms : X.mg "set" = none) (h : SO T F W X a t)
    (na : starEach [a] X.env = (false, eval a X.env) :: starEach [] X.env := by rfl) : SE T F W X (.Call (.Name "len" p) [.Call (.Name "set" p2) [a] [] q] [] pos) (eOp1 D.lenSet t) := by
  refine pe_imp (Ls.pe_lenSetK hc gl ml gs ms h na) fun σ H Q q => den.bind q fun o ρ1 g0 H0 g1 H1 v s1 e1 r1 p1 => ?_
  obtain ⟨d, hd, p2⟩ := Po.of p1
  obtain ⟨dx, q1, hd⟩ := Option.bind_eq_some_iff.mp hd
  have rv := r1.rv e1 q1
  cases dx <;> simp only [D.lenSet, reduceCtorEq] at hd
  split at hd
  · rename_i few
    obtain ⟨ks, hk, rfl⟩ := Option.map_eq_some_iff.mp hd
    obtain ⟨l, xs, rfl, hl, ra⟩ := rv.lst
    have := ra_keys ra hk
    subst this
    have e := ra.len
    rw [List.length_map] at e
    exact ⟨l, ks, rfl, by rw [hK]; exact .of hl, by omega, p2 _ g1 H1 .refl e1 (.int _)⟩
  · cases hd
theorem mapI {ls : List L2.Key} {ns : List Int} (h : ls.Perm (Ls.dd (ns.map Sum.inl))) : ls = (ls.filterMap kI).map Sum.inl := by
  have all : ∀ k ∈ ls, ∃ i, k = .inl i := fun k hk => by
    obtain ⟨i, _, rfl⟩ := List.mem_map.mp (Ls.dd_in (h.mem_iff.mp hk)); exact ⟨i, rfl⟩
  clear h
  induction ls with
  | nil => rfl
  | cons k ls ih =>
    obtain ⟨i, rfl⟩ := all k List.mem_cons_self
    show _ = Sum.inl i :: (ls.filterMap kI).map Sum.inl
    rw [← ih fun k hk => all k (List.mem_cons_of_mem _ hk)]
theorem mapS {ls : List L2.Key} {ns : List Str} (h : ls.Perm (Ls.dd (ns.map Sum.inr))) : ls = (ls.filterMap kS).map Sum.inr := by
  have all : ∀ k ∈ ls, ∃ i, k = .inr i := fun k hk => by
    obtain ⟨i, _, rfl⟩ := List.mem_map.mp (Ls.dd_in (h.mem_iff.mp hk)); exact ⟨i, rfl⟩
  clear h
  induction ls with
  | nil => rfl
  | cons k ls ih =>
    obtain ⟨i, rfl⟩ := all k List.mem_cons_self
    show _ = Sum.inr i :: (ls.filterMap kS).map Sum.inr
    rw [← ih fun k hk => all k (List.mem_cons_of_mem _ hk)]
theorem n_srtSet {t : EO} (hK : X.K = T.K) (hc : X.calm = true) (gl : Gl X "sorted") (ml : X.mg "sorted" = none) (gs : Gl X "set") (ms : X.mg "set" = none) (h : SO T F W X a t)
    (na : starEach [a] X.env = (false, eval a X.env) :: starEach [] X.env := by rfl) : SE T F W X (.Call (.Name "sorted" p) [.Call (.Name "set" p2) [a] [] q] [] pos) (eOp1 D.srtSet t) := by
  refine pe_imp (Ls.pe_srtSetK hc gl ml gs ms h na) fun σ H Q q => den.bind q fun o ρ1 g0 H0 g1 H1 v s1 e1 r1 p1 => ?_
  obtain ⟨d, hd, p2⟩ := Po.of p1
  obtain ⟨dx, q1, hd⟩ := Option.bind_eq_some_iff.mp hd
  have rv := r1.rv e1 q1
  cases dx <;> simp only [D.srtSet, reduceCtorEq] at hd
  split at hd
  · rename_i few
    obtain ⟨l, xs, rfl, hl, ra⟩ := rv.lst
    split at hd
    · rename_i ns hns
      cases hd
      have := ra.ints hns
      subst this
      have e := ra.len
      rw [List.length_map] at e
      refine ⟨l, ns.map Sum.inl, rfl, by rw [Ls.kV_int, hK]; exact .of hl, by rw [List.length_map]; omega, .inl ⟨ns, rfl⟩, fun ls pp pm pw hp => ?_⟩
      have em := mapI pm
      have hpw : (ls.filterMap kI).Pairwise (fun a b => leI a b = true) := by
        rw [em, List.pairwise_map] at pw
        exact pw
      rw [← isort_is ordI (pm.filterMap kI) hpw] at p2
      rw [em, Ls.kV_int]
      exact p2 _ g1 _ (.gr (.alloc hp) e1) (e1.gr (.alloc hp)) (R.newL hp e1.zl (RA.ofInts _))
    · split at hd
      · rename_i ns hns
        cases hd
        have := ra.strs hns
        subst this
        have e := ra.len
        rw [List.length_map] at e
        refine ⟨l, ns.map Sum.inr, rfl, by rw [Ls.kV_str, hK]; exact .of hl, by rw [List.length_map]; omega, .inr ⟨ns, rfl⟩, fun ls pp pm pw hp => ?_⟩
        have em := mapS pm
        have hpw : (ls.filterMap kS).Pairwise (fun a b => leS a b = true) := by
          rw [em, List.pairwise_map] at pw
          exact pw
        rw [← isort_is ordS (pm.filterMap kS) hpw] at p2
        rw [em, Ls.kV_str]
        exact p2 _ g1 _ (.gr (.alloc hp) e1) (e1.gr (.alloc hp)) (R.newL hp e1.zl (RA.ofStrs _))
      · cases hd
  · cases hd
end
end Lc
namespace Lc
open PySem L2
section
variable {T : Tx} {X : Cx}
theorem ints_map : ∀ ns : List Int, D.ints (ns.map .int) = some ns
  | [] => rfl
  | x :: r => by simp only [List.map_cons, D.ints, ints_map r, Option.map_some]
theorem rows_len : ∀ {ds : List D} {rs : List (List Int)}, D.rows ds = some rs → ds = rs.map fun r => .tup (r.map .int)
  | [], _, h => by cases h; rfl
  | .tup xs :: r, rs, h => by
    unfold D.rows at h
    split at h
    · rename_i ns rs' e1 e2
      cases h
      have h1 : xs = ns.map .int := by
        clear e2
        induction xs generalizing ns with
        | nil => cases e1; rfl
        | cons x xs ih =>
          cases x <;> simp only [D.ints, reduceCtorEq] at e1
          obtain ⟨ms, h2, rfl⟩ := Option.map_eq_some_iff.mp e1
          rw [List.map_cons, ← ih _ h2]
      rw [List.map_cons, ← rows_len e2, h1]
    · cases h
  | .non :: _, _, h => nomatch h
  | .bl _ :: _, _, h => nomatch h
  | .int _ :: _, _, h => nomatch h
  | .str _ :: _, _, h => nomatch h
  | .lst _ :: _, _, h => nomatch h
  | .dk _ :: _, _, h => nomatch h
  | .dt _ :: _, _, h => nomatch h
  | .ins _ _ :: _, _, h => nomatch h
  | .om _ :: _, _, h => nomatch h
  | .scr _ :: _, _, h => nomatch h
theorem rows_ra {H : Hp} {Z : Zs} : ∀ {vs : List V} {rs : List (List Int)}, RA T H Z vs (rs.map fun r => .tup (r.map .int)) → ∃ bs : List (V × List Int), vs = bs.map (·.1) ∧ rs = bs.map (·.2) ∧ ∀ b ∈ bs, R T H Z b.1 (.tup (b.2.map .int))
  | [], [], _ => ⟨[], rfl, rfl, nofun⟩
  | _ :: _, [], h => nomatch h
  | [], _ :: _, h => nomatch h
  | v :: vs, r :: rs, .cons h t => by
    obtain ⟨bs, rfl, rfl, k⟩ := rows_ra t
    refine ⟨(v, r) :: bs, rfl, rfl, fun b hb => ?_⟩
    rcases List.mem_cons.mp hb with rfl | hb
    · exact h
    · exact k b hb
theorem ra_rows {H : Hp} {Z : Zs} : ∀ {bs : List (V × List Int)}, (∀ b ∈ bs, R T H Z b.1 (.tup (b.2.map .int))) → RA T H Z (bs.map (·.1)) ((bs.map (·.2)).map fun r => .tup (r.map .int))
  | [], _ => .nil
  | b :: bs, h => .cons (h b List.mem_cons_self) (ra_rows fun c hc => h c (List.mem_cons_of_mem _ hc))
theorem pwI {ns : List Int} (h : ns.Pairwise (· ≤ ·)) : ns.Pairwise (fun a b => leI a b = true) := h.imp fun q => decide_eq_true q
theorem pwS {ns : List Str} (h : PyProof.Rows.sortedS ns = true) : ns.Pairwise (fun a b => leS a b = true) := by
  have := Ls.sortedS_pw h
  rw [List.pairwise_map] at this
  exact this
theorem permI {ls : List L2.Key} {ns : List Int} (h : ls.Perm (ns.map Sum.inl)) : ls = (ls.filterMap kI).map Sum.inl ∧ (ls.filterMap kI).Perm ns := by
  have all : ∀ k ∈ ls, ∃ i, k = .inl i := fun k hk => by
    obtain ⟨i, _, rfl⟩ := List.mem_map.mp (h.mem_iff.mp hk); exact ⟨i, rfl⟩
  refine ⟨?_, by simpa [List.filterMap_map, Function.comp_def, kI] using h.filterMap kI⟩
  clear h
  induction ls with
  | nil => rfl
  | cons k ls ih =>
    obtain ⟨i, rfl⟩ := all k List.mem_cons_self
    show _ = Sum.inl i :: (ls.filterMap kI).map Sum.inl
    rw [← ih fun k hk => all k (List.mem_cons_of_mem _ hk)]
theorem permS {ls : List L2.Key} {ns : List Str} (h : ls.Perm (ns.map Sum.inr)) : ls = (ls.filterMap kS).map Sum.inr ∧ (ls.filterMap kS).Perm ns := by
  have all : ∀ k ∈ ls, ∃ i, k = .inr i := fun k hk => by
    obtain ⟨i, _, rfl⟩ := List.mem_map.mp (h.mem_iff.mp hk); exact ⟨i, rfl⟩
  refine ⟨?_, by simpa [List.filterMap_map, Function.comp_def, kS] using h.filterMap kS⟩
  clear h
  induction ls with
  | nil => rfl
  | cons k ls ih =>
    obtain ⟨i, rfl⟩ := all k List.mem_cons_self
    show _ = Sum.inr i :: (ls.filterMap kS).map Sum.inr
    rw [← ih fun k hk => all k (List.mem_cons_of_mem _ hk)]
theorem dkeyI : ∀ {ks : List L2.Key} {ns : List Int}, D.ints (ks.map dKey) = some ns → ks = ns.map Sum.inl
  | [], _, h => by cases h; rfl
  | .inl i :: r, _, h => by
    simp only [List.map_cons, dKey, D.ints] at h
    obtain ⟨ms, h2, rfl⟩ := Option.map_eq_some_iff.mp h
    rw [List.map_cons, ← dkeyI h2]
  | .inr i :: r, _, h => nomatch h
theorem dkeyS : ∀ {ks : List L2.Key} {ns : List Str}, D.strs (ks.map dKey) = some ns → ks = ns.map Sum.inr
  | [], _, h => by cases h; rfl
  | .inr i :: r, _, h => by
    simp only [List.map_cons, dKey, D.strs] at h
    obtain ⟨ms, h2, rfl⟩ := Option.map_eq_some_iff.mp h
    rw [List.map_cons, ← dkeyS h2]
  | .inl i :: r, _, h => nomatch h
theorem cr1_sorted (hK : X.K = T.K) (hc : X.calm = true) (hu : X.A.units + 64 < cLine) : CallR X (.builtin "sorted") (rC1 T D.srtD) := by
  intro pins s σ H xs us Q I r ⟨x, e, Z, dx, d, z, hx, hd, k⟩
  subst e
  unfold D.srtD at hd
  split at hd
  · rename_i ds
    obtain ⟨a, vs, rfl, h, r1⟩ := hx.lst
    have el := r1.len
    unfold srtO at hd
    split at hd
    · rename_i few
      split at hd
      · rename_i ns hns
        cases hd
        have := r1.ints hns
        subst this
        refine cr_sorted pins s σ H _ us Q I r ⟨a, ns, rfl, by rw [hK]; exact .of h, by rw [List.length_map] at el; omega, fun ns' p pm pw hp => ?_⟩
        rw [isort_is ordI pm (pwI pw)]
        exact k _ _ (.alloc hp) (R.newL hp z (RA.ofInts _))
      · split at hd
        · rename_i ns hns
          cases hd
          have := r1.strs hns
          subst this
          refine cr_sortedS pins s σ H _ us Q I r ⟨a, ns, rfl, by rw [hK]; exact .of h, by rw [List.length_map] at el; omega, fun ns' p pm pw hp => ?_⟩
          rw [isort_is ordS pm (pwS pw)]
          exact k _ _ (.alloc hp) (R.newL hp z (RA.ofStrs _))
        · split at hd
          · rename_i rs hrs
            split at hd
            · rename_i hall
              cases hd
              have e2 := rows_len hrs
              rw [e2] at r1
              obtain ⟨bs, rfl, rfl, hb⟩ := rows_ra r1
              simp only [Bool.true_and, List.all_eq_true] at hall
              refine Ls.cr_sortR hu pins s σ H _ us Q I r ⟨a, bs, rfl, by rw [hK]; exact .of h, fun b hbm => ?_, by rw [List.length_map] at el; omega, fun cs p pm pw hp => ?_⟩
              · obtain ⟨t, ts, e3, _, h3, h4⟩ := (Rv.of (hb b hbm)).tup
                have := h4.ints (ints_map b.2)
                subst this
                refine ⟨t, e3, by rw [hK]; exact h3, fun e => ?_⟩
                have := hall b.2 (List.mem_map_of_mem hbm)
                rw [e] at this
                cases this
              · have e3 : cs.map (·.2) = isort leR (bs.map (·.2)) := isort_is ordR (pm.map _) (by
                  rw [List.pairwise_map]
                  exact pw.imp fun q => by simpa [leR] using q)
                rw [← e3] at k
                exact k _ _ (.alloc hp) (R.newL hp z (ra_rows fun b hbm => hb b (pm.mem_iff.mp hbm)))
            · cases hd
          · cases hd
    · cases hd
  · rename_i ds
    obtain ⟨a, vs, rfl, hf, h, r1⟩ := hx.tup
    have el := r1.len
    unfold srtO at hd
    split at hd
    · rename_i few
      split at hd
      · rename_i ns hns
        cases hd
        have := r1.ints hns
        subst this
        refine Ls.cr_sortTK pins s σ H _ us Q I r ⟨a, ns.map Sum.inl, rfl, by rw [hK, Ls.kV_int]; exact h, by rw [List.length_map] at el ⊢; omega, .inl ⟨ns, rfl⟩, fun ls p pm pw hp => ?_⟩
        obtain ⟨e1, e2⟩ := permI pm
        rw [e1, List.pairwise_map] at pw
        rw [e1, Ls.kV_int, isort_is ordI e2 pw]
        exact k _ _ (.alloc hp) (R.newL hp z (RA.ofInts _))
      · split at hd
        · rename_i ns hns
          cases hd
          have := r1.strs hns
          subst this
          refine Ls.cr_sortTK pins s σ H _ us Q I r ⟨a, ns.map Sum.inr, rfl, by rw [hK, Ls.kV_str]; exact h, by rw [List.length_map] at el ⊢; omega, .inr ⟨ns, rfl⟩, fun ls p pm pw hp => ?_⟩
          obtain ⟨e1, e2⟩ := permS pm
          rw [e1, List.pairwise_map] at pw
          rw [e1, Ls.kV_str, isort_is ordS e2 pw]
          exact k _ _ (.alloc hp) (R.newL hp z (RA.ofStrs _))
        · split at hd
          · simp only [Bool.false_and, Bool.false_eq_true, if_false, reduceCtorEq] at hd
          · cases hd
    · cases hd
  · rename_i kvs
    obtain ⟨a, ws, rfl, h, ek, r1⟩ := hx.dk
    unfold srtO at hd
    have em : (kvs.map fun kv => dKey kv.1) = (ws.map (·.1)).map dKey := by rw [ek, List.map_map]; rfl
    have el : ws.length = kvs.length := by have := congrArg List.length ek; simpa using this
    split at hd
    · rename_i few
      rw [List.length_map] at few
      split at hd
      · rename_i ns hns
        cases hd
        rw [em] at hns
        refine call_sortedDI hc pins s σ H _ us Q I r ⟨a, ws, ns, rfl, h, dkeyI hns, ?_, fun ns' p pm pw hp => ?_⟩
        · have := congrArg List.length (dkeyI hns); simp at this; omega
        rw [isort_is ordI pm (pwI pw)]
        exact k _ _ (.alloc hp) (R.newL hp z (RA.ofInts _))
      · split at hd
        · rename_i ns hns
          cases hd
          rw [em] at hns
          refine call_sortedD hc pins s σ H _ us Q I r ⟨a, ws, ns, rfl, h, dkeyS hns, ?_, fun ns' p pm pw hp => ?_⟩
          · have := congrArg List.length (dkeyS hns); simp at this; omega
          rw [isort_is ordS pm (pwS pw)]
          exact k _ _ (.alloc hp) (R.newL hp z (RA.ofStrs _))
        · split at hd
          · simp only [Bool.false_and, Bool.false_eq_true, if_false, reduceCtorEq] at hd
          · cases hd
    · cases hd
  · cases hd
end
end Lc
namespace Lc
open PySem L2 PySem.Spec PyProof.Rows

section
variable {prog : Program} {w : World} {A : Around} {E : Value → Shared → Prop} {s : Shared} {K : PySem.W.Frag} {x C f : Addr} {ox : Obj} {od : Option Obj} {b tb : Value} {h₀ : Heap} {L : Addr} {m : Str → Option Value}
theorem ne_bound {M : Model} {args : List Value} {Q : Option Value → Shared → Prop} (kin : K.In s.heap) (I : PySem.W.InstAt s.heap x ox C od) (fi : PySem.W.findIn K (.ref C) "__ne__" = some (some (.builtin "object.__ne__")))
    (h : wpAny M A (call (.builtin "object.__ne__") (.ref x :: args)) (fun v => Q (some v)) E s) : wpAny M A (callSpecialIfBound? (.ref x) "__ne__" args) Q E s := by
  have last : wpAny M A (call (.builtin "object.__ne__") ([.ref x] ++ args) >>= fun v => pure (some v)) Q E s := wpAny_bind (wpAny_mono h (fun _ _ q => wpAny_pure q) fun _ _ q => q)
  unfold callSpecialIfBound? bindSpecialIfBound?
  refine wpAny_holding (wpAny_bind (wpAny_bind (wpAny_bind (I.type.here ((PySem.W.looks_findIn kin fi).here ?_)))))
  refine wpAny_bind (wpAny_askSetting (wpAny_ite ?_))
  split
  · exact wpAny_bind (wpAny_of_eq (F.cmp_object.ne.bind _) (wpAny_pure (by exact last)))
  · exact wpAny_tryCatch (wpAny_bind (wpAny_of_eq (F.cmp_object.ne.bind _) (wpAny_pure (by exact last))))
theorem ne_entry {y : Value} {Q : Fin → Shared → Prop} (kin : K.In s.heap) (I : PySem.W.InstAt s.heap x ox C od) (hu : A.units < cLine) (fe : PySem.W.findIn K (.ref C) "__eq__" = some (some (.ref f))) (ff : PySem.W.isFn K (.ref f) = true)
    (h : wpAny (model prog w) A (call (.ref f) [.ref x, y]) (fun v s' => ∃ r, v = .bool r ∧ Q (.done (.ret (.bool (!r)))) s') E s) : wpAny (model prog w) A (Builtin.«object.__ne__» ⟨[.ref x, y], []⟩) Q E s := by
  unfold Builtin.«object.__ne__»
  repeat (first
    | with_reducible refine wpAny_cRoomFor hu ?_
    | (refine wpAny_bind (m := callSpecialIfBound? (.ref x) (Str.ofString "__eq__") [y])
        (PySem.W.ifBound_K kin I fe ff (wpAny_mono h (fun r s' hr => by
          obtain ⟨b, rfl, q⟩ := hr
          repeat (first | exact q | exact wpAny_pure q | exact wpAny_truthy_bool q | (refine wpAny_bind (m := truthy (.bool _)) (wpAny_truthy_bool ?_)) | wp_step)) fun _ _ e => e)))
    | wp_step)
theorem ne_K {Q : Value → Shared → Prop} (hu : A.units + 1 < cLine) (kin2 : K.In s.heap) (I : PySem.W.InstAt s.heap x ox C od) (hb : PySem.W.Looks (model prog w) s.heap (typeOf b) tb) (nf : PySem.W.notFirst K C tb = true)
    (hm : PySem.W.mroIn K C (.type "object") = some true) (fn : PySem.W.findIn K (.ref C) "__ne__" = some (some (.builtin "object.__ne__"))) (fe : PySem.W.findIn K (.ref C) "__eq__" = some (some (.ref f))) (ff : PySem.W.isFn K (.ref f) = true)
    (h : wpAny (model prog w) A.in1 (call (.ref f) [.ref x, b]) (fun v s' => ∃ r, v = .bool r ∧ Q (.bool (!r)) s') E s) : wpAny (model prog w) A (richCompare .NotEq (.ref x) b) Q E s := by
  have one : wpAny (model prog w) A (tryCompare (.ref x) "__ne__" b) (fun r s' => ∃ v, r = some v ∧ Q v s') E s := by
    unfold tryCompare
    refine wpAny_bind (ne_bound kin2 I fn (wpAny_call (codeAny_call_builtin F.cmp_object.ne.plain F.cmpEntry_ne
      (PySem.W.check_slot F.cmpKind_ne F.cmpSplit_ne (I.type.andThen (PySem.W.looks_mroIn kin2 hm)) (F.cmpArgs_ne _ _) (ne_entry (A := A.in1) kin2 I hu fe ff (wpAny_mono h (fun v s' q => ?_) fun _ _ e => e))))))
    obtain ⟨r, rfl, q⟩ := q
    exact ⟨r, rfl, wpAny_pure ⟨_, rfl, q⟩⟩
  unfold richCompare
  simp only [oneThing_ref]
  refine wpAny_holding (wpAny_bind (wpAny_cRoomFor (Nat.lt_of_succ_lt hu) ?_))
  rw [cmpInfo_NotEq]
  dsimp only
  refine wpAny_bind (I.type.here (wpAny_bind (hb.here ?_)))
  split
  · rename_i ne
    have e : PySem.W.subIn K tb (.ref C) = some false := by
      rcases Bool.or_eq_true_iff.mp nf with e | e
      · rw [beq_iff_eq.mp e] at ne; simp at ne
      · exact beq_iff_eq.mp e
    refine wpAny_bind ((PySem.W.looks_subIn kin2 e).here ?_)
    simp only [Bool.false_eq_true, if_false]
    refine wpAny_bind (wpAny_mono one (fun r s' z => ?_) fun _ _ e => e)
    obtain ⟨v, rfl, q⟩ := z
    exact wpAny_pure q
  · refine wpAny_bind (wpAny_pure ?_)
    simp only [Bool.false_eq_true, if_false]
    refine wpAny_bind (wpAny_mono one (fun r s' z => ?_) fun _ _ e => e)
    obtain ⟨v, rfl, q⟩ := z
    exact wpAny_pure q
end

/-- what the text's class at C is asked at == and != -/
structure EqC (K : PySem.W.Frag) (C f : Addr) : Prop where
  eq : PySem.W.findIn K (.ref C) "__eq__" = some (some (.ref f))
  fn : PySem.W.isFn K (.ref f) = true
  ne : PySem.W.findIn K (.ref C) "__ne__" = some (some (.builtin "object.__ne__"))
  mro : PySem.W.mroIn K C (.type "object") = some true
def XF : XK := fun _ _ _ => False
def WF : WX' := fun _ _ _ _ => False
/-- x == y, x != y of two instances -/
def rInEq (C : Addr) (sp : Sp) (ng : Bool) : R2 := fun x y H Q => ∃ a dx b dy fs gs, x = .ref a ∧ y = .ref b ∧ H a = some (.ins C dx fs) ∧ H b = some (.ins C dy gs) ∧ sp [x, y] H (fun v H' => ∃ r, v = .bl r ∧ Q (.bl (r ^^ ng)) H') XF
section
variable {X : Cx} {CX : CXT} {C f : Addr} {fd : FuncData} {ps : List Str} {sp : Sp} {n : Nat}
theorem run_bool {A : Around} {pins : List (Addr × Obj)} {σ : L2.St} {H : Hp} {s : Shared} {us : List Value} {ws : List V} {P : Bool → Hp → Prop} {Q : Value → Shared → Prop} (F : FnOk X.prog X.w X.K X.mg X.base CX n f fd ps sp) (room : Room n A) (fr : A.frames = X.A.frames) (hb : Binds X.K fd ps []) (hx : Passes CX X XF)
    (I : Inv X pins σ H s) (r : Vals ws us) (h : sp ws H (fun v H' => ∃ r, v = .bl r ∧ P r H') XF) (k : ∀ b H' s', Inv X pins σ H' s' → P b H' → Q (.bool b) s') : wpAny (model X.prog X.w) A (call (.ref f) us) Q X.xe s := by
  have hl := F.len _ _ _ _ h
  have e0 : Env0 X.prog X.w X.K X.mg X.base A X.stack s H := by
    have e := I.env0
    exact ⟨by rw [fr]; exact e.frames, e.mod, e.bs, e.bsz, e.funs, e.frf, e.hok, e.bare⟩
  refine wpAny_call (codeAny_mono (F.run A X.stack s H ⟨us, []⟩ us ws _ XF room e0 (by
    have := hb s us I.kIn (by rw [List.append_nil, ← r.length]; simpa using hl)
    simpa using this) r h) fun r s' q => ?_)
  cases r with
  | error e => exact hx pins σ H s e s' I q
  | ok fl =>
    cases fl with
    | ret w =>
      obtain ⟨z, H', I', rz, b, ez, p⟩ := I.after q
      subst ez
      cases rz
      exact k b H' s' I' p
    | next => exact False.elim q
    | brk => exact False.elim q
    | cont => exact False.elim q
theorem op_inEq (F : FnOk X.prog X.w X.K X.mg X.base CX n f fd ps sp) (c : EqC X.K C f) (hb : Binds X.K fd ps []) (hx : Passes CX X XF) (room : Room n X.A) : OpR X (compareOp .Eq) (rInEq C sp false) := by
  intro pins s σ H x y v u Q I rx ry h
  obtain ⟨a, dx, b, dy, fs, gs, rfl, rfl, ha, hb', q⟩ := h
  cases rx
  cases ry
  obtain ⟨_, J, _⟩ := ins_get I.hok ha
  obtain ⟨_, J', _⟩ := ins_get I.hok hb'
  obtain ⟨_, J, _⟩ := J.look
  obtain ⟨_, J', _⟩ := J'.look
  obtain ⟨_, hF⟩ := I.fr
  refine PySem.W.cmp_K (op := .Eq) (tb := .ref C) room.units0 hF I.ok.mod.kin J J'.type (by simp [PySem.W.notFirst]) c.eq c.fn ?_
  refine run_bool (us := [.ref a, .ref b]) (ws := [.ref a, .ref b]) F room rfl hb hx I (.cons rfl (.cons rfl .nil)) q fun r H' s' I' q => ?_
  rw [Bool.xor_false] at q
  exact ⟨.bl r, H', I', rfl, q⟩
theorem op_inNe (F : FnOk X.prog X.w X.K X.mg X.base CX n f fd ps sp) (c : EqC X.K C f) (hb : Binds X.K fd ps []) (hx : Passes CX X XF) (room : Room (n + 1) X.A) (hu : X.A.units + 1 < cLine) : OpR X (compareOp .NotEq) (rInEq C sp true) := by
  intro pins s σ H x y v u Q I rx ry h
  obtain ⟨a, dx, b, dy, fs, gs, rfl, rfl, ha, hb', q⟩ := h
  cases rx
  cases ry
  obtain ⟨_, J, _⟩ := ins_get I.hok ha
  obtain ⟨_, J', _⟩ := ins_get I.hok hb'
  obtain ⟨_, J, _⟩ := J.look
  obtain ⟨_, J', _⟩ := J'.look
  obtain ⟨_, hF⟩ := I.fr
  refine ne_K (tb := .ref C) hu I.kIn J J'.type (by simp [PySem.W.notFirst]) c.mro c.ne c.eq c.fn ?_
  refine run_bool (A := X.A.in1) (us := [.ref a, .ref b]) (ws := [.ref a, .ref b]) F (Room.in1 room) rfl hb hx I (.cons rfl (.cons rfl .nil)) q fun r H' s' I' q => ⟨r, rfl, ?_⟩
  rw [Bool.xor_true] at q
  exact ⟨.bl (!r), H', I', rfl, q⟩
end
def isInsC (c : Nat) : Option D → Bool
  | some (.ins c' _) => c' == c
  | _ => false
def blOf (ng : Bool) : Res Sl → Res D
  | .ok (.fz (.bl r)) ρ => .ok (.bl (r ^^ ng)) ρ
  | _ => .no
def eInEq (c : Nat) (f : Fn) (ng : Bool) (ta tb : EA1) : EE := fun ρ => (ta ρ).bind fun a ρ => (tb ρ).bind fun b ρ => if isInsC c (a.get ρ) && isInsC c (b.get ρ) then blOf ng (callF f [a, b] ρ) else .no
section
variable {T : Tx} {F : Fm} {W : WX'} {X : Cx} {CX : CXT} {n c : Nat} {f : Addr} {fn : Fn} {fd : FuncData} {ps : List Str} {pos : Pos} {a b : Expr}
theorem isInsC_of {o : Option D} (h : isInsC c o = true) : ∃ fs, o = some (.ins c fs) := by
  unfold isInsC at h
  split at h
  · rename_i c' fs
    obtain rfl : c' = c := by simpa using h
    exact ⟨fs, rfl⟩
  · cases h
theorem s_inEq {op : CmpOp} {ng : Bool} {ta tb : EA1} (o : OpR X (compareOp op) (rInEq (T.cl c) (spF T 2 fn) ng)) (ha : SA1 T F W X a ta) (hb : SA1 T F W X b tb) (hm : behindInMarks op b = false) : SE T F W X (.Compare a [op] [b] pos) (eInEq c fn ng ta tb) := by
  refine pe_imp (pe_cmpR o ha hb hm) fun σ H Q q => ?_
  refine den.bind q fun oa ρ1 g0 H0 g1 H1 x s1 e1 r1 p1 => ?_
  refine ⟨g1, ρ1, e1, Po.bind p1 fun ob ρ2 g2 H2 y s2 e2 r2 p2 => ?_⟩
  split at p2
  · rename_i hi
    rw [Bool.and_eq_true] at hi
    obtain ⟨fs, h1⟩ := isInsC_of hi.1
    obtain ⟨gs, h2⟩ := isInsC_of hi.2
    have r1' : rAr T g2 σ H2 oa x := by
      cases oa with
      | v d => exact R.step s2.st r1
      | s i => exact r1
    obtain ⟨aa, dx, ws, rfl, k1, _⟩ := (Ar.rv e2 r1' h1).ins
    obtain ⟨bb, dy, us, rfl, k2, _⟩ := (Ar.rv e2 r2 h2).ins
    refine ⟨aa, dx, bb, dy, ws, us, rfl, rfl, k1, k2, ?_⟩
    refine call_sp (W := WF) (F := F) (g := g2) (ρ := ρ2) (σ := σ) e2 (as := [oa, ob]) (.cons r1' (.cons r2 .nil)) rfl ?_
    generalize callF fn [oa, ob] ρ2 = res at p2
    unfold blOf at p2
    split at p2
    · intro v g3 H3 s3 e3 r3
      cases r3
      exact ⟨_, rfl, p2 _ g3 H3 s3 e3 (.bl _)⟩
    · exact p2.elim
  · exact p2.elim
end

inductive Tg | non | bl | int | str | tup | lst | dk | ins (c : Nat)
  deriving DecidableEq
def D.tg : D → Option Tg
  | .non => some .non
  | .bl _ => some .bl
  | .int _ => some .int
  | .str _ => some .str
  | .tup _ => some .tup
  | .lst _ => some .lst
  | .scr _ => some .lst
  | .dk _ => some .dk
  | .dt _ => none
  | .ins c _ => some (.ins c)
  | .om _ => none
def Tg.nm : Tg → String
  | .non => "NoneType" | .bl => "bool" | .int => "int" | .str => "str" | .tup => "tuple" | .lst => "list" | .dk => "dict" | .ins _ => ""
def Tg.val (cl : Nat → Addr) : Tg → Value
  | .ins c => .ref (cl c)
  | t => .type t.nm
def Tg.sub (a b : Tg) : Bool := a == b || (a == .bl && b == .int)
def tgs (n : Nat) : List Tg := [.non, .bl, .int, .str, .tup, .lst, .dk] ++ (List.range n).map .ins
/-- what the text's classes answer: by decide -/
def kitT (K : PySem.W.Frag) (cl : Nat → Addr) (n : Nat) : Bool := (tgs n).all fun a => (tgs n).all fun b => PySem.W.kitOne K (a.val cl) (b.val cl) == some (a.sub b)
def isiD (n : Nat) (cs : List Tg) (d : D) : Option D := match d.tg with
  | some t => if (tgs n).contains t then some (.bl (cs.any (t.sub ·))) else none
  | none => none
end Lc
namespace Lc
open PySem L2

/-- what isinstance asks of the text's classes -/
structure IsC (K : PySem.W.Frag) (cl : Nat → Addr) (n : Nat) : Prop where
  cs : ∀ c, c < n → Cls K (cl c)
  at_ : ∀ c, c < n → PySem.W.findIn K (.ref (cl c)) "__class__" = some (some (.builtin "object.__class__"))
  mro : ∀ c, c < n → PySem.W.mroIn K (cl c) (.type "object") = some true
  get : PySem.W.specialIn K (.builtin "object.__class__") "__get__" = some (some (.builtin "getset_descriptor.__get__"))
  tk : PySem.W.takesIn K (.builtin "object.__class__") = some true
  kit : kitT K cl n = true
section
variable {T : Tx} {F : Fm} {W : WX'} {X : Cx} {n c : Nat} {pos p q : Pos} {e : Expr} {x : Str}
theorem kit_at {K : PySem.W.Frag} {cl : Nat → Addr} {n : Nat} (h : kitT K cl n = true) {a b : Tg} (ha : (tgs n).contains a = true) (hb : (tgs n).contains b = true) : PySem.W.kitOne K (a.val cl) (b.val cl) = some (a.sub b) := by
  unfold kitT at h
  rw [List.all_eq_true] at h
  have h2 := h a (List.contains_iff_mem.mp ha)
  rw [List.all_eq_true] at h2
  exact beq_iff_eq.mp (h2 b (List.contains_iff_mem.mp hb))
theorem kit_any {K : PySem.W.Frag} {cl : Nat → Addr} {n : Nat} (h : kitT K cl n = true) {a : Tg} (ha : (tgs n).contains a = true) : ∀ {cs : List Tg}, cs.all ((tgs n).contains ·) = true → PySem.W.kitAny K (a.val cl) (cs.map (·.val cl)) = some (cs.any (a.sub ·))
  | [], _ => rfl
  | b :: cs, hc => by
    simp only [List.all_cons, Bool.and_eq_true] at hc
    refine kitAny_cons (kit_at h ha hc.1) (fun e => ?_) fun e => by simp [e]
    rw [kit_any h ha hc.2]
    simp [e]
theorem ty_of {H : Hp} {Z : Zs} {v : V} {d : D} {t : Tg} (ic : IsC T.K T.cl n) (r : Rv T H Z v d) (h : d.tg = some t) (hn : (tgs n).contains t = true) : TyX T.K H v (t.val T.cl) := by
  cases d with
  | non => cases h; cases r.non; exact .base .non
  | bl b => cases h; cases r.bl; exact .base (.bl _)
  | int b => cases h; cases r.int; exact .base (.int _)
  | str b => cases h; cases r.str; exact .base (.str _)
  | tup ds =>
    cases h
    obtain ⟨a, xs, rfl, _, hs, _⟩ := r.tup
    rcases hs with (h | ⟨o, h⟩) | ⟨o, its, m, h, hc, _⟩
    · exact .base (.tup h)
    · exact .fTuple h
    · exact .kTuple h hc
  | lst ds =>
    cases h
    obtain ⟨a, xs, rfl, hs, _⟩ := r.lst
    exact .base (.lst hs)
  | dk kvs =>
    cases h
    obtain ⟨a, xs, rfl, hs, _⟩ := r.dk
    rcases hs with h | ⟨o, h⟩
    · exact .base (.dK h)
    · exact .fDict h
  | dt kvs => cases h
  | ins c fs =>
    cases h
    obtain ⟨a, dx, ws, rfl, h, _⟩ := r.ins
    have hc : c < n := by
      have := List.contains_iff_mem.mp hn
      simp [tgs] at this
      exact this
    exact .base (.ins h (ic.cs c hc) (ic.at_ c hc) ic.get ic.tk (ic.mro c hc))
  | om m => cases h
  | scr ns =>
    cases h
    obtain ⟨a, rfl, hs⟩ := r.scr
    rcases hs with (h | ⟨o, h⟩) | ⟨o, its, m, h, hc, _⟩
    · exact .base (.lst h)
    · exact .base (.frz h)
    · exact .kList h hc
def Tg.v (cl : Nat → Addr) : Tg → V
  | .ins c => .ref (cl c)
  | t => .ty t.nm
theorem clsV (cl : Nat → Addr) (t : Tg) : ClsV (t.v cl) (t.val cl) := by
  cases t <;> first | exact .own _ | exact .ty _
theorem clsVs (cl : Nat → Addr) : ∀ cs : List Tg, Paired ClsV (cs.map (·.v cl)) (cs.map (·.val cl))
  | [] => .nil
  | c :: cs => .cons (clsV _ _) (clsVs cl cs)
/-- a class by its name -/
def SCls (T : Tx) (X : Cx) (e : Expr) (t : Tg) : Prop := PE X e (tC (t.v T.cl))
def SClss (T : Tx) (X : Cx) (es : List Expr) (ts : List Tg) : Prop := PA X es (fun _ H Q => Q (ts.map (·.v T.cl)) H)
theorem cls_b {t : Tg} {id : String} (gl : Gl X x) (hm : X.mg x = none) (hv : bootBuiltins x = some (.type id)) (he : t.v T.cl = .ty id) (hn : x ≠ "__name__" := by decide) (hd : (x == ("__debug__" : Str)) = false := by decide) : SCls T X (.Name x pos) t := by
  unfold SCls
  rw [he]
  exact pe_bltn gl hm hv rfl hn hd
theorem cls_i {c : Nat} (gl : Gl X x) (hm : X.mg x = some (.ref (T.cl c))) (hd : (x == ("__debug__" : Str)) = false := by decide) : SCls T X (.Name x pos) (.ins c) := pe_glob gl hm rfl hd
theorem clss_nil : SClss T X [] [] := pa_nil
theorem clss_cons {es : List Expr} {t : Tg} {ts : List Tg} (h : SCls T X e t) (hr : SClss T X es ts) (hs : starEach (e :: es) X.env = (false, eval e X.env) :: starEach es X.env := by rfl) : SClss T X (e :: es) (t :: ts) :=
  pa_imp (pa_cons h hr hs) fun _ _ _ q => q
def eIsi (n : Nat) (cs : List Tg) (t : EO) : EE := eOp1 (isiD n cs) t
theorem isiD_of {cs : List Tg} {d r : D} (h : isiD n cs d = some r) : ∃ t, d.tg = some t ∧ (tgs n).contains t = true ∧ r = .bl (cs.any (t.sub ·)) := by
  unfold isiD at h
  split at h
  · rename_i t e
    split at h
    · rename_i hc
      cases h
      exact ⟨t, e, hc, rfl⟩
    · cases h
  · cases h
theorem s_isi {ce : Expr} {g : Tg} {t : EO} (hK : X.K = T.K) (ic : IsC T.K T.cl n) (hc : (tgs n).contains g = true) (gl : Gl X "isinstance") (ml : X.mg "isinstance" = none) (ha : SO T F W X e t) (hce : SCls T X ce g)
    (he : starEach [e, ce] X.env = (false, eval e X.env) :: starEach [ce] X.env := by rfl) (he2 : starEach [ce] X.env = (false, eval ce X.env) :: starEach [] X.env := by rfl) (hpl : (backTo pos (starEach [ce] X.env)).any (·.1) = false := by rfl) :
    SE T F W X (.Call (.Name "isinstance" p) [e, ce] [] pos) (eIsi n [g] t) := by
  refine pe_imp (pe_callB call_isi gl ml rfl (pa_cons ha (pa_cons hce pa_nil he2) he) (by decide) (by decide) he hpl) fun σ H Q q => ?_
  refine den.bind q fun oa ρ1 g0 H0 g1 H1 v s1 e1 r1 p1 => ?_
  obtain ⟨d, hd, p3⟩ := Po.of p1
  obtain ⟨dx, q1, hd⟩ := Option.bind_eq_some_iff.mp hd
  obtain ⟨tg, h1, h2, rfl⟩ := isiD_of hd
  refine ⟨v, g.v T.cl, tg.val T.cl, g.val T.cl, tg.sub g, rfl, clsV _ _, by rw [hK]; exact ty_of ic (r1.rv e1 q1) h1 h2, by rw [hK]; exact kit_at ic.kit h2 hc, ?_⟩
  have : tg.sub g = [g].any (tg.sub ·) := by simp
  rw [this]
  exact p3 _ g1 H1 .refl e1 (.bl _)
theorem s_isiT {ces : List Expr} {k : Nat} {cs : List Tg} {t : EO} (hK : X.K = T.K) (ic : IsC T.K T.cl n) (hc : cs.all ((tgs n).contains ·) = true) (hl : cs.length ≤ 100) (gl : Gl X "isinstance") (ml : X.mg "isinstance" = none) (ha : SO T F W X e t) (hce : SClss T X ces cs)
    (he : starEach [e, .Tuple ces k q] X.env = (false, eval e X.env) :: starEach [.Tuple ces k q] X.env := by rfl) (he2 : starEach [.Tuple ces k q] X.env = (false, eval (.Tuple ces k q) X.env) :: starEach [] X.env := by rfl) (hpl : (backTo pos (starEach [.Tuple ces k q] X.env)).any (·.1) = false := by rfl) :
    SE T F W X (.Call (.Name "isinstance" p) [e, .Tuple ces k q] [] pos) (eIsi n cs t) := by
  refine pe_imp (pe_callB call_isiT gl ml rfl (pa_cons ha (pa_cons (pe_tup hce) pa_nil he2) he) (by decide) (by decide) he hpl) fun σ H Q q => ?_
  refine den.bind q fun oa ρ1 g0 H0 g1 H1 v s1 e1 r1 p1 => ?_
  obtain ⟨d, hd, p3⟩ := Po.of p1
  obtain ⟨dx, q1, hd⟩ := Option.bind_eq_some_iff.mp hd
  obtain ⟨tg, h1, h2, rfl⟩ := isiD_of hd
  refine ⟨by rw [List.length_map, sizeLine_eq]; omega, fun tp hp => ?_⟩
  have e2 : SR T F g1 ρ1 σ (upd H1 tp (.tup (cs.map (·.v T.cl)))) := e1.gr (.alloc hp)
  have r2 : rO T oa ρ1 g1 σ (upd H1 tp (.tup (cs.map (·.v T.cl)))) v := r1.step (.gr (.alloc hp) e1)
  refine ⟨v, tp, cs.map (·.v T.cl), tg.val T.cl, cs.map (·.val T.cl), cs.any (tg.sub ·), rfl, upd_same, ?_, by rw [hK]; exact ty_of ic (r2.rv e2 q1) h1 h2, by rw [hK]; exact kit_any ic.kit h2 hc, ?_⟩
  · exact clsVs _ cs
  · exact p3 _ g1 _ (.gr (.alloc hp) e1) e2 (.bl _)
end
end Lc
namespace Lk
open PySem PySem.Spec PyProof.Rows
section
variable {prog : Program} {w : World} {A : Around} {E : Value → Shared → Prop} {s : Shared}
theorem min_by_len {l : Addr} {vs : Array Value} {ln : Nat → Nat} {Q : Value → Shared → Prop} (hh : A.handled = none) (hl : s.heap.IsList l vs) (hn : 0 < vs.size)
    (hi : ∀ (i : Nat) v, vs[i]? = some v → ∃ a items, v = .ref a ∧ s.heap.IsList a items ∧ items.size = ln i ∧ ln i ≤ 1000000)
    (h : ∀ v h' tk, vs[argBest (fun i j => decide ((ln i : Int) < (ln j : Int))) (vs.size - 1)]? = some v → (∀ b o, s.heap.get? b = some o → h'.get? b = some o) → Q v { s with heap := h', toks := tk }) :
    wpAny (model prog w) A (call (.builtin "min") [.ref l] [(Str.ofString "key", .builtin "len")]) Q E s := by
  refine call_min_walkKB (PySem.W.iter_listW (A := A.in1) hh hl fun s₂ e W st hfp hw hk => ?_)
  refine ⟨_, _, _, _, _, _, _, fun s' => ∃ h' tk, s' = { s with heap := h', toks := tk } ∧ ∀ b o, s.heap.get? b = some o → h'.get? b = some o,
    fun i k _ => i < vs.size ∧ ∃ t, k = .int (ln i) t, fun i j => decide ((ln i : Int) < (ln j : Int)), rfl, W, st, hfp, hn, ⟨?_, ?_, ?_, ?_⟩, ?_, ?_⟩
  · rintro s1 s' ⟨h1, tk1, rfl, k1⟩ m
    refine ⟨s'.heap, s'.toks, ?_, fun b o e1 => m.heap b o (fun hb => ?_) (k1 b o e1)⟩
    · obtain ⟨hp, g, d, tk, os⟩ := s'
      have h1 : g = s.gens := m.gens
      have h2 : d = s.drawn := m.drawn
      have h3 : os = s.os := m.os
      subst h1 h2 h3
      rfl
    · have lt := Heap.lt_size e1
      subst e
      rcases List.mem_cons.mp hb with rfl | hb
      · have : s.heap.objs.size < (s.heap.push { cls := .type "list_iterator", data := .fields #[.ref l, .int 0 0] }).objs.size := by rw [Heap.size_push]; exact Nat.lt_succ_self _
        exact absurd (Nat.lt_trans lt this) (Nat.lt_irrefl _)
      · exact absurd lt (List.mem_singleton.mp hb ▸ Nat.lt_irrefl _)
  · exact fun _ _ _ _ h _ => h
  · rintro i v s1 o Q1 E1 hin hP ⟨h1, tk1, rfl, k1⟩ hst hS hQ
    obtain ⟨a, items, rfl, hla, hsz, hlt⟩ := hi i v hP
    have hla1 : h1.IsList a items := by
      obtain ⟨o, e1, rest⟩ := hla
      exact ⟨o, k1 _ _ e1, rest⟩
    refine Calls.call_len_list hla1 (by rw [hsz]; omega) (hQ _ _ ⟨h1, _, rfl, k1⟩ ?_ hS ⟨hin, _, by rw [hsz]⟩ fun _ _ h => h)
    exact W.frame _ _ _ _ hst (by show tk1 ≤ tk1 + 1 + 1; omega) fun _ _ _ e => e
  · rintro i j ki kj s1 Q1 E1 _ ⟨_, t, rfl⟩ ⟨_, u, rfl⟩ hq
    exact richCompare_gives (op := .Lt) (typeIs_int s1 _ t) (typeIs_int s1 _ u) F.slot_int_lt F.entry_int_lt (F.args_int_lt_2 _ _) (gives_int_lt _ _ t u) (fun x => nomatch x) hq
  · subst e
    exact ⟨_, s.toks, rfl, fun b o e => Heap.get?_push_of_some _ e⟩
  · rintro v s' hP ⟨h', tk, rfl, k1⟩
    exact h v h' tk hP k1
end
end Lk

namespace Lc
open PySem L2 PySem.Spec PyProof.Rows
def lstLen : D → Option Nat
  | .lst xs => if xs.length ≤ LIM then some xs.length else none
  | _ => none
def lensOf : List D → Option (List Nat)
  | [] => some []
  | d :: r => match lstLen d, lensOf r with
    | some n, some ns => some (n :: ns)
    | _, _ => none
def minLen : D → Option D
  | .lst xs => match lensOf xs with
    | some ns => xs[argBest (fun i j => decide (((ns.getD i 0 : Nat) : Int) < ((ns.getD j 0 : Nat) : Int))) (xs.length - 1)]?
    | none => none
  | _ => none
theorem valsBack : ∀ {xs : List V} {us : List Value} {i : Nat} {u : Value}, Vals xs us → us[i]? = some u → ∃ x, xs[i]? = some x ∧ RelV x u
  | _, _, _, _, .nil, e => by simp at e
  | _, _, 0, _, .cons r _, e => by simp at e; subst e; exact ⟨_, rfl, r⟩
  | _, _, i + 1, _, .cons _ t, e => by
    obtain ⟨x, h, r⟩ := valsBack t (i := i) (by simpa using e)
    exact ⟨x, by simpa using h, r⟩
section
variable {T : Tx} {F : Fm} {W : WX'} {X : Cx} {n c : Nat} {pos p q kp : Pos} {e : Expr} {x : Str} {H : Hp} {Z : Zs}
theorem lens_rel : ∀ {vs : List V} {ds : List D} {ns : List Nat}, RA T H Z vs ds → lensOf ds = some ns → ∀ {i : Nat} {v : V}, vs[i]? = some v → ∃ a xs, v = .ref a ∧ H a = some (.lst xs) ∧ xs.length = ns.getD i 0 ∧ ns.getD i 0 ≤ LIM
  | _, _, _, .nil, _, i, v, h => by simp at h
  | v0 :: vs, d :: ds, ns, .cons r t, e, i, v, h => by
    simp only [lensOf] at e
    split at e
    · rename_i n ns' e1 e2
      cases e
      cases i with
      | zero =>
        simp at h
        subst h
        cases d <;> simp only [lstLen, reduceCtorEq] at e1
        split at e1
        · cases e1
          obtain ⟨a, xs, rfl, ha, ra⟩ := (Rv.of r).lst
          rename_i hle
          exact ⟨a, xs, rfl, ha, by simpa using ra.len, by simpa using hle⟩
        · cases e1
      | succ i =>
        obtain ⟨a, xs, h1, h2, h3, h4⟩ := lens_rel t e2 (i := i) (v := v) (by simpa using h)
        exact ⟨a, xs, h1, h2, by simpa using h3, by simpa using h4⟩
    · cases e
theorem s_minLen {t : EO} (hK : X.K = T.K) (hc : X.calm = true) (gl : Gl X "min") (ml : X.mg "min" = none) (gs : Gl X "len") (ms : X.mg "len" = none) (h : SO T F W X e t) (hs : starEach [e] X.env = (false, eval e X.env) :: starEach [] X.env := by rfl)
    (he : backTo pos (starEach [e] X.env) = (false, eval e X.env) :: backTo pos (starEach [] X.env) := by rfl) (hpl : (backTo pos (starEach [e] X.env)).any (·.1) = false := by rfl)
    (hall : (backToKw pos (keywordEach [⟨some "key", .Name "len" q, kp⟩] X.env)).all (·.1.isSome) = true := by rfl) (hnone : (backToKw pos (keywordEach [⟨some "key", .Name "len" q, kp⟩] X.env)).any (·.1.isNone) = false := by rfl) :
    SE T F W X (.Call (.Name "min" p) [e] [⟨some "key", .Name "len" q, kp⟩] pos) (eOp1 minLen t) := by
  refine ⟨fun pins s σ H Q I hq => ?_⟩
  refine wpAny_Call_Name_kw (ld_blt (u := .builtin "min") I gl ml rfl ?_ (by decide) (by decide))
  refine PyProof.Rows.callWith_kw (thn ((pa_cons h pa_nil hs).run pos pins s σ H (fun vs H1 => ∃ x, vs = [x] ∧ ∃ (l : Addr) (zs : List V) (ln : Nat → Nat), x = .ref l ∧ SqL T.K H1 l zs ∧ 0 < zs.length ∧ (∀ (i : Nat) v, zs[i]? = some v → ∃ a xs, v = .ref a ∧ H1 a = some (.lst xs) ∧ xs.length = ln i ∧ ln i ≤ LIM) ∧
    ∀ v, zs[argBest (fun i j => decide ((ln i : Int) < (ln j : Int))) (zs.length - 1)]? = some v → Q v H1) I ?_) fun us s1 ⟨vs, H1, I1, r1, x, hx, l, zs, ln, e1, hl, hz, hi, q1⟩ => ?_) he hpl hall hnone
  · refine den.bind hq fun oa ρ1 g0 H0 g1 H1 x s1 e1 r1 p1 => ?_
    obtain ⟨d, hd, p3⟩ := Po.of p1
    obtain ⟨dx, q1, hd⟩ := Option.bind_eq_some_iff.mp hd
    have rv := r1.rv e1 q1
    unfold minLen at hd
    split at hd
    · split at hd
      · rename_i ds ns hns
        obtain ⟨a, vs, rfl, ha, ra⟩ := rv.lst
        refine ⟨.ref a, rfl, a, vs, fun i => ns.getD i 0, rfl, .of ha, ?_, fun i v hv => lens_rel ra hns hv, fun v hv => ?_⟩
        · rw [ra.len]
          have := (List.getElem?_eq_some_iff.mp hd).1
          omega
        · rw [ra.len] at hv
          obtain ⟨d', h1, r⟩ := ra.getV hv
          rw [hd] at h1
          cases h1
          exact p3 v g1 H1 .refl e1 r
      · cases hd
    · cases hd
  · subst hx e1
    obtain rfl := Vals.ref1 r1
    refine thn (show wpAny (model X.prog X.w) X.A (evalAll ((backToKw pos (keywordEach [⟨some "key", .Name "len" q, kp⟩] X.env)).map (·.2))) (fun ws s' => ws = [.builtin "len"] ∧ Inv X pins σ H1 s') X.xe s1 from ?_) fun ws s2 ⟨hw, I2⟩ => ?_
    · refine wpAny_evalAll_cons (wpAny_bind (ld_blt (u := .builtin "len") I1 gs ms rfl (wpAny_bind (wpAny_standAt (wpAny_pure ?_))) (by decide) (by decide)))
      exact wpAny_evalAll_nil ⟨rfl, I1⟩
    · subst hw
      obtain ⟨its, rv, hl2, _⟩ := I2.list (hK ▸ hl)
      have hlen := rv.length
      refine Lk.min_by_len (ln := ln) (I2.ok.hd hc) hl2.isList (by simpa [← hlen] using hz) (fun i v hv => ?_) fun v h' tk hv k => ?_
      · obtain ⟨xv, hxv, rl⟩ := valsBack rv (by simpa using hv)
        obtain ⟨a, xs, rfl, ha, h1, h2⟩ := hi i xv hxv
        cases rl
        obtain ⟨its2, rv2, hl3, _⟩ := I2.list (.of ha)
        have hlen2 := rv2.length
        refine ⟨a, _, rfl, hl3.isList, by simpa [← hlen2] using h1, ?_⟩
        exact h2
      · have hsz : its.toArray.size - 1 = zs.length - 1 := by simp [hlen]
        rw [hsz] at hv
        obtain ⟨xv, hxv, rl⟩ := valsBack rv (by rw [List.getElem?_toArray] at hv; exact hv)
        exact ⟨xv, H1, I2.kept k, rl, q1 xv hxv⟩
end
end Lc
namespace Lk
open PySem PySem.Spec PyProof.Rows
section
variable {prog : Program} {w : World} {A : Around} {E : Value → Shared → Prop} {s : Shared} {e it T : Addr} {fp : List Addr} {n i : Nat} {P : Nat → Value → Prop} {St : Nat → Heap → Prop} {old : Value} {f : Bool} {oT : Obj}
theorem held_next {Q : Value → Shared → Prop} (D : Draws prog w A it fp n P St) (en : IsEnumHeld s.heap e it i old T f) (tT : s.heap.get? T = some oT) (Te : T ≠ e) (Ti : T ≠ it) (st : St i s.heap) (lt : i < n) (ne : e ≠ it) (ef : e ∉ fp)
    (q : ∀ x h' tk, P i x → IsEnumHeld h' e it ((i : Int) + 1) old T true → St (i + 1) h' → h'.get? s.heap.objs.size = some { cls := .type "tuple", data := .seq #[.int i tk, x] } →
      (∀ b o, b ≠ e → b ≠ it → s.heap.get? b = some o → h'.get? b = some o) → Q (.ref s.heap.objs.size) { s with heap := h', toks := tk + 1 }) :
    wpAny (model prog w) A (Builtin.«enumerate.__next__» ⟨[.ref e], []⟩) (fun fin s' => ∃ v, fin = .done (.ret v) ∧ Q v s') E s := by
  obtain ⟨hp, gs, dr, tk0, os⟩ := s
  show wpAny _ _ (field (.ref e) 2 >>= _) _ _ _
  refine wpAny_bind (wpAny_field en rfl (x := .ref it) rfl ?_)
  refine wpAny_bind (D.item i _ _ _ lt st fun x ha ta px sa ba => ?_)
  replace ba : Heap.SameBut it hp ha := ba
  have ea : IsEnumHeld ha e it i old T f := (ba.2 e ne).trans en
  show wpAny _ _ (field (.ref e) 3 >>= _) _ _ ⟨ha, gs, dr, ta, os⟩
  refine wpAny_bind (wpAny_field ea rfl (x := rawInt i) rfl ?_)
  show wpAny _ _ (field (.ref e) 4 >>= _) _ _ ⟨ha, gs, dr, ta, os⟩
  refine wpAny_bind (wpAny_field ea rfl (x := .none) rfl ?_)
  show wpAny _ _ (mkInt i >>= _) _ _ ⟨ha, gs, dr, ta, os⟩
  refine wpAny_bind (wpAny_mkInt ?_)
  show wpAny _ _ (setField (.ref e) 3 (rawInt ((i : Int) + 1)) >>= _) _ _ ⟨ha, gs, dr, ta + 1, os⟩
  refine wpAny_bind (wpAny_setField_rec ea (by simp) fun hb eb bb => ?_)
  replace bb : Heap.SameBut e ha hb := bb
  replace eb : IsEnumHeld hb e it ((i : Int) + 1) old T f := eb
  show wpAny _ _ (setField (.ref e) 4 .none >>= _) _ _ ⟨hb, gs, dr, ta + 1, os⟩
  refine wpAny_bind (wpAny_setField_rec eb (by simp) fun hc ec bc => ?_)
  replace bc : Heap.SameBut e hb hc := bc
  replace ec : IsEnumHeld hc e it ((i : Int) + 1) old T f := ec
  show wpAny _ _ (newTuple [.int i ta, x] >>= _) _ _ ⟨hc, gs, dr, ta + 1, os⟩
  refine wpAny_bind (wpAny_newTuple ?_)
  have ed : IsEnumHeld (hc.push { cls := .type "tuple", data := .seq #[.int i ta, x] }) e it ((i : Int) + 1) old T f := Heap.get?_push_of_some _ ec
  generalize eh : hc.push { cls := .type "tuple", data := .seq #[.int i ta, x] } = hd at ed
  have sz : hc.objs.size = hp.objs.size := by rw [bc.1, bb.1, ba.1]
  have el : e < hp.objs.size := Heap.lt_size en
  have td : hd.get? hp.objs.size = some { cls := .type "tuple", data := .seq #[.int i ta, x] } := by rw [← eh, ← sz]; exact Heap.get?_push_size _ rfl
  have kd : ∀ b o, b ≠ e → b ≠ it → hp.get? b = some o → hd.get? b = some o := fun b o n1 n2 z => by
    rw [← eh]; exact Heap.get?_push_of_some _ (bc.extBut b o n1 (bb.extBut b o n1 (ba.extBut b o n2 z)))
  have sd : St (i + 1) hd := D.frame _ _ _ sa fun b z o y => by
    have n1 : b ≠ e := fun q => ef (q ▸ z)
    rw [← eh]; exact Heap.get?_push_of_some _ (bc.extBut b o n1 (bb.extBut b o n1 y))
  show wpAny _ _ (Builtin.SmallTypes.ownedTupleIsFree (.ref e) >>= _) _ _ ⟨hd, gs, dr, ta + 1, os⟩
  rw [sz]
  clear eh ec bc eb bb ea ba sa sz hc hb ha
  refine wpAny_bind (wpAny_tupleHeld_enum (s := ⟨hd, gs, dr, ta + 1, os⟩) ed (kd T oT Te Ti tT) fun hz ez bz => ?_)
  replace bz : Heap.SameBut e hd hz := bz
  simp only [Bool.false_eq_true, if_false]
  exact wpAny_pure ⟨_, rfl, q x hz ta px ez (D.frame _ _ _ sd fun b z o y => bz.extBut b o (fun q => ef (q ▸ z)) y) (bz.extBut _ _ (Nat.ne_of_gt el) td) fun b o n1 n2 z => bz.extBut b o n1 (kd b o n1 n2 z)⟩
theorem held_item {Q : Option Value → Shared → Prop} (D : Draws prog w A.in1 it fp n P St) (en : IsEnumHeld s.heap e it i old T f) (tT : s.heap.get? T = some oT) (Te : T ≠ e) (Ti : T ≠ it) (st : St i s.heap) (lt : i < n) (ne : e ≠ it) (ef : e ∉ fp)
    (q : ∀ x h' tk, P i x → IsEnumHeld h' e it ((i : Int) + 1) old T true → St (i + 1) h' → h'.get? s.heap.objs.size = some { cls := .type "tuple", data := .seq #[.int i tk, x] } →
      (∀ b o, b ≠ e → b ≠ it → s.heap.get? b = some o → h'.get? b = some o) → Q (some (.ref s.heap.objs.size)) { s with heap := h', toks := tk + 1 }) :
    wpAny (model prog w) A (pyNext (.ref e)) Q E s := by
  have ty : s.TypeIs (.ref e) "enumerate" := ⟨_, en, rfl⟩
  unfold pyNext
  exact wpAny_bind (wpAny_attempt (wpAny_callSpecial?_slot (name := Str.ofString "__next__") ty F.slot_enumerate_next
    (wpAny_call_entry F.slot_enumerate_next ty F.entry_enumerate_next (held_next D en tT Te Ti st lt ne ef fun x h' tk a b c d k => wpAny_pure (q x h' tk a b c d k)) (F.args_enumerate_next_1 _))))
theorem held_end {Q : Option Value → Shared → Prop} {k : Int} (D : Draws prog w A.in1 it fp n P St) (en : IsEnumHeld s.heap e it k old T f) (st : St n s.heap) (q : ∀ h', Heap.ExtBut it s.heap h' → Q none { s with heap := h' }) : wpAny (model prog w) A (pyNext (.ref e)) Q E s := by
  have ty : s.TypeIs (.ref e) "enumerate" := ⟨_, en, rfl⟩
  unfold pyNext
  refine wpAny_bind (wpAny_attempt (wpAny_callSpecial?_slot (name := Str.ofString "__next__") ty F.slot_enumerate_next (wpAny_call_entry F.slot_enumerate_next ty F.entry_enumerate_next ?_ (F.args_enumerate_next_1 _))))
  show wpAny _ _ (field (.ref e) 2 >>= _) _ _ _
  refine wpAny_bind (wpAny_field en rfl (x := .ref it) rfl ?_)
  refine wpAny_bind (D.done _ _ _ st fun h' x k1 ⟨o, k2, k3⟩ => ?_)
  exact wpAny_bind (wpAny_isInstance (T := "StopIteration") (b := true) ⟨o, k2, k3⟩ isSubtype_stop (wpAny_pure (q _ k1)))
end
theorem enumArgT {prog : Program} {w : World} (e it l : Addr) (ei : e ≠ it) (le : l ≠ e) (li : l ≠ it) (items : Array Value) :
    PairArg prog w "enumerate" e [e, it, l] [e, it] items.size (fun i k v => (∃ t, k = .int i t) ∧ items[i]? = some v)
      (fun h => (∃ old, IsEnum h e it 0 old) ∧ h.IsTupleIter it l 0 ∧ h.IsTuple l items) where
  type := fun s ok => let ⟨⟨_, en⟩, _⟩ := ok; ⟨_, en, rfl⟩
  notDict := by decide
  keep := fun h h' ⟨⟨old, en⟩, hi, hl⟩ hk => ⟨⟨old, hk _ _ en⟩, hi.at fun o x => hk _ o x, hl.at fun o x => hk _ o x⟩
  there := fun h ⟨⟨old, en⟩, ⟨o1, h1, _⟩, ⟨o2, h2, _⟩⟩ b hb => by
    rcases (by simpa using hb : b = e ∨ b = it ∨ b = l) with rfl | rfl | rfl
    · exact ⟨_, en⟩
    · exact ⟨_, h1⟩
    · exact ⟨_, h2⟩
  sub := fun b hb => by
    rcases (by simpa using hb : b = e ∨ b = it) with rfl | rfl <;> simp
  noKeys := fun A s Q E hA ⟨⟨_, en⟩, _⟩ h => getAttrOr_miss_enumerate en rfl rfl rfl enumerate_no_keys (by decide +kernel) hA h
  iter := fun A s d Q E hA ⟨⟨old, en⟩, hi, hl⟩ hd df h => by
    have hdf : d ≠ e ∧ d ≠ it ∧ d ≠ l := by simpa using df
    obtain ⟨de, dit, dl⟩ := hdf
    have D : Draws prog w A.in1 it _ items.size _ _ := Draws.tuple (A := A.in1) hA it l li items
    refine wpAny_pyIter_enum en (h e [e, it] (fun i h => (h.IsTupleIter it l i ∧ h.IsTuple l items) ∧ ((∃ old, IsEnum h e it i old) ∨ ∃ old T f oT, IsEnumHeld h e it i old T f ∧ h.get? T = some oT ∧ T ≠ e ∧ T ≠ it ∧ T ≠ d)) s.heap s.toks ?_
      ⟨⟨hi, hl⟩, .inl ⟨old, en⟩⟩ (fun _ _ e => e) fun b hb => .inl hb)
    refine ⟨by simp [de, dit], fun i h₁ h₂ ⟨⟨hi, hl⟩, st⟩ hk => ⟨⟨hi.at fun o x => hk _ o (Ne.symm dit) x, hl.at fun o x => hk _ o (Ne.symm dl) x⟩, ?_⟩, ?_, ?_⟩
    · rcases st with ⟨old, en⟩ | ⟨old, T, f, oT, en, hT, r1, r2, r3⟩
      · exact .inl ⟨old, hk _ _ (Ne.symm de) en⟩
      · exact .inr ⟨old, T, f, oT, hk _ _ (Ne.symm de) en, hk _ _ r3 hT, r1, r2, r3⟩
    · intro i s₁ Q₁ E₁ lt ⟨tt, st⟩ hds hQ
      have ec : ((i + 1 : Nat) : Int) = (i : Int) + 1 := by omega
      have nit : s₁.heap.objs.size ≠ it := let ⟨_, x, _⟩ := tt.1; Nat.ne_of_gt (Heap.lt_size x)
      have ef : e ∉ [it, l] := by simp [ei, Ne.symm le]
      rcases st with ⟨old, en⟩ | ⟨old, T, f, oT, en, hT, r1, r2, r3⟩
      · refine wpAny_pyNext_enum_itemD D en tt lt ei ef fun x h' tk px ho st' hT hsz hk => ?_
        exact hQ s₁.heap.objs.size _ _ h' (tk + 1) ⟨⟨_, rfl⟩, px⟩ (.inl ⟨_, hT, rfl, _, rfl⟩) ⟨st', .inr ⟨_, s₁.heap.objs.size, false, _, (by rw [ec]; exact ho), hT, Nat.ne_of_gt (Heap.lt_size en), nit, Nat.ne_of_gt hds⟩⟩
          fun b o hb x => hk b o (fun y => hb (by simp [y])) (fun y => hb (by simp [y])) x
      · refine held_item D en hT r1 r2 tt lt ei ef fun x h' tk px ho st' hT' hk => ?_
        exact hQ s₁.heap.objs.size _ _ h' (tk + 1) ⟨⟨_, rfl⟩, px⟩ (.inl ⟨_, hT', rfl, _, rfl⟩) ⟨st', .inr ⟨old, T, true, oT, (by rw [ec]; exact ho), hk _ _ r1 r2 hT, r1, r2, r3⟩⟩
          fun b o hb x => hk b o (fun y => hb (by simp [y])) (fun y => hb (by simp [y])) x
    · intro s₁ Q₁ E₁ ⟨tt, st⟩ hQ
      rcases st with ⟨old, en⟩ | ⟨old, T, f, oT, en, hT, r1, r2, r3⟩
      · exact wpAny_pyNext_enum_endD D en tt fun h' hk => hQ h' s₁.toks fun b o hb x => hk b o (fun y => hb (by simp [y])) x
      · exact held_end D en tt fun h' hk => hQ h' s₁.toks fun b o hb x => hk b o (fun y => hb (by simp [y])) x
end Lk
namespace Lc
open PySem L2 PySem.Spec PyProof.Rows
def enumFrom (i : Nat) : List D → List (L2.Key × D)
  | [] => []
  | d :: r => (Sum.inl (i : Int), d) :: enumFrom (i + 1) r
/-- dict(enumerate(a tuple)) -/
def dEnumD : D → Option D
  | .tup xs => some (.dk (enumFrom 0 xs))
  | _ => none
def listD : D → Option D
  | .lst xs => some (.lst xs)
  | .tup xs => some (.lst xs)
  | .dk kvs => some (.lst (kvs.map fun kv => dKey kv.1))
  | .scr ns => some (.lst (ns.map D.int))
  | _ => none
def listVals : D → Option D
  | .dk kvs => some (.lst (kvs.map (·.2)))
  | _ => none
def minF : D → Option D
  | .lst xs => (D.ints xs).bind fun ns => match ns with
    | [] => none
    | n :: r => some (.int (r.foldl min n))
  | .tup xs => (D.ints xs).bind fun ns => match ns with
    | [] => none
    | n :: r => some (.int (r.foldl min n))
  | _ => none
section
variable {T : Tx} {F : Fm} {W : WX'} {X : Cx} {pos p p2 q apos cpos : Pos} {e : Expr} {H : Hp} {Z : Zs}
def enumV (i : Nat) : List V → List (L2.Key × V)
  | [] => []
  | d :: r => (Sum.inl (i : Int), d) :: enumV (i + 1) r
theorem enumV_rel : ∀ {vs : List V} {ds : List D} (i : Nat), RA T H Z vs ds → (enumV i vs).map (·.1) = (enumFrom i ds).map (·.1) ∧ (enumV i vs).map (·.2) = vs ∧ (enumFrom i ds).map (·.2) = ds
  | _, _, _, .nil => ⟨rfl, rfl, rfl⟩
  | v :: vs, d :: ds, i, .cons r t => by
    obtain ⟨h1, h2, h3⟩ := enumV_rel (i + 1) t
    exact ⟨by simp only [enumV, enumFrom, List.map_cons, h1], by simp only [enumV, List.map_cons, h2], by simp only [enumFrom, List.map_cons, h3]⟩
theorem enumV_kv : ∀ {vs : List V} {us : List Value} (i : Nat), Vals vs us → ∃ prs : List (L2.Key × Value), KV (enumV i vs) prs ∧ prs.length = us.length ∧ (∀ (j : Nat) u, us[j]? = some u → prs[j]? = some (Sum.inl ((i + j : Nat) : Int), u)) ∧ (∀ k ∈ prs.map (·.1), ∃ m : Int, k = Sum.inl m ∧ (i : Int) ≤ m) ∧ (prs.map (·.1)).Nodup
  | _, _, _, .nil => ⟨[], .nil, rfl, fun j u h => by simp at h, by simp, by simp⟩
  | v :: vs, u :: us, i, .cons r t => by
    obtain ⟨prs, h1, h2, h3, h4, h5⟩ := enumV_kv (i + 1) t
    refine ⟨(Sum.inl (i : Int), u) :: prs, .cons ⟨rfl, r⟩ h1, by simp [h2], fun j w h => ?_, fun k hk => ?_, ?_⟩
    · cases j with
      | zero => simp at h; subst h; simp
      | succ j =>
        have := h3 j w (by simpa using h)
        rw [List.getElem?_cons_succ, this, show i + 1 + j = i + (j + 1) by omega]
    · rw [List.map_cons] at hk
      rcases List.mem_cons.mp hk with rfl | hk
      · exact ⟨_, rfl, Int.le_refl _⟩
      · obtain ⟨m, e, hm⟩ := h4 k hk
        exact ⟨m, e, by omega⟩
    · rw [List.map_cons, List.nodup_cons]
      refine ⟨fun hk => ?_, h5⟩
      obtain ⟨m, e, hm⟩ := h4 _ hk
      cases e
      omega
theorem s_dEnum {t : EO} (hK : X.K = T.K) (hc : X.calm = true) (gd : Gl X "dict") (md : X.mg "dict" = none) (ge : Gl X "enumerate") (me : X.mg "enumerate" = none) (h : SO T F W X e t) (hs : starEach [e] X.env = (false, eval e X.env) :: starEach [] X.env := by rfl)
    (hs2 : starEach [.Call (.Name "enumerate" p2) [e] [] q] X.env = (false, eval (.Call (.Name "enumerate" p2) [e] [] q) X.env) :: starEach [] X.env := by rfl) :
    SE T F W X (.Call (.Name "dict" p) [.Call (.Name "enumerate" p2) [e] [] q] [] pos) (eOp1 dEnumD t) := by
  refine ⟨fun pins s σ H Q I hq => ?_⟩
  refine wpAny_Call_Name_kw (ld_blt I gd md boot_dict ?_)
  refine PyProof.Rows.callWith_type1 ?_ hs2 rfl
  rw [hs2]
  show wpAny _ _ (spliced ((false, eval (.Call (.Name "enumerate" p2) [e] [] q) X.env) :: backTo pos (starEach [] X.env))) _ _ s
  refine Calls.spliced_cons (Call_ (ld_blt I ge me boot_enumerate (PyProof.Rows.callWith_type1 (thn ((pa_cons h pa_nil hs).run q pins s σ H (fun vs H1 => ∃ x, vs = [x] ∧ ∃ (l : Addr) (zs : List V), x = .ref l ∧ SqT T.K H1 l zs ∧ ∀ p, H1 p = none → Q (.ref p) (upd H1 p (.dK (enumV 0 zs)))) I ?_) fun us s1 ⟨vs, H1, I1, r1, x, hx, l, zs, e1, hl, q1⟩ => ?_) hs rfl)))
  · refine den.bind hq fun oa ρ1 g0 H0 g1 H1 x s1 e1 r1 p1 => ?_
    obtain ⟨d, hd, p3⟩ := Po.of p1
    obtain ⟨dx, q1, hd⟩ := Option.bind_eq_some_iff.mp hd
    have rv := r1.rv e1 q1
    cases dx <;> simp only [dEnumD, reduceCtorEq, Option.some.injEq] at hd
    subst hd
    obtain ⟨a, vs, rfl, _, ha, ra⟩ := rv.tup
    refine ⟨.ref a, rfl, a, vs, rfl, ha, fun p hp => p3 _ g1 _ (.gr (.alloc hp) e1) (e1.gr (.alloc hp)) ?_⟩
    obtain ⟨h1, h2, h3⟩ := enumV_rel (T := T) (H := H1) (Z := g1.Z) 0 ra
    have gr : Gr H1 (upd H1 p (.dK (enumV 0 vs))) := .alloc hp
    exact .dk (.of upd_same) (fun z => (e1.zl p z) hp) h1 (by rw [h2, h3]; exact RA.step gr.step ra)
  · subst hx e1
    obtain rfl := Vals.ref1 r1
    obtain ⟨its, rv, pl, hz⟩ := I1.tuple (hK ▸ hl)
    have hlt : l < s1.heap.objs.size := by obtain ⟨o, ho, _⟩ := id pl; exact Heap.lt_size ho
    refine enum1_of (begins_tuple l its.toArray) pl fun h' en hit hsz hk => ?_
    refine Calls.spliced_nil ?_
    obtain ⟨prs, k1, k2, k3, k4, k5⟩ := enumV_kv 0 rv
    have I2 : Inv X pins σ H1 { s1 with heap := h' } := I1.kept (t' := s1.toks) hk
    have hlen := k1.length
    refine call_dict_pairs (knd := mixKind X.prog X.w) (kvs := prs) (Lk.enumArgT (s1.heap.objs.size + 1) s1.heap.objs.size l (Nat.succ_ne_self _) (Nat.ne_of_lt (Nat.lt_succ_of_lt hlt)) (Nat.ne_of_lt hlt) its.toArray) (I2.ok.hd hc) ⟨⟨_, en⟩, ⟨_, hit, rfl, rfl⟩, pl.keeps hk⟩
      ⟨by rw [k2, List.size_toArray], fun i key v hr => ?_⟩ (by rw [List.size_toArray, ← rv.length]; exact hz) fun h2 tk hd2 hk2 => ?_
    · obtain ⟨⟨t, rfl⟩, hv⟩ := hr
      have := k3 i v (by rw [List.getElem?_toArray] at hv; exact hv)
      rw [Nat.zero_add] at this
      exact ⟨_, this, keyIs_int _ t⟩
    · rw [merged_nil_of_nodup _ k5] at hd2
      have hm : (h'.objs.size == sysModules) = false := beq_eq_false_iff_ne.mpr (Nat.ne_of_gt I2.big)
      have keep : ∀ b o, s1.heap.get? b = some o → h2.get? b = some o := fun b o e => by
        have lt := Heap.lt_size e
        exact hk2 b o (by simp only [List.mem_cons, List.not_mem_nil, or_false, not_or]; exact ⟨Nat.ne_of_lt (Nat.lt_succ_of_lt lt), Nat.ne_of_lt lt⟩) (hk b o e)
      have le : s1.heap.objs.size ≤ h'.objs.size := by rw [hsz]; exact Nat.le_add_right _ _
      exact ⟨.ref h'.objs.size, upd H1 h'.objs.size (.dK (enumV 0 zs)), I1.laid (t' := tk) keep le (show ObjOk X.prog X.w _ _ _ (.dK (enumV 0 zs)) from ⟨by rw [hlen, k2, ← rv.length]; exact hz, hm, prs, k1, hd2⟩), rfl, q1 _ (I1.hok.fresh le)⟩
theorem cr1_list (hK : X.K = T.K) (hc : X.calm = true) : CallR X (.type "list") (rC1 T listD) := by
  intro pins s σ H xs us Q I r ⟨x, e, Z, dx, d, z, hx, hd, k⟩
  subst e
  unfold listD at hd
  split at hd
  · cases hd
    obtain ⟨a, vs, rfl, h, r1⟩ := hx.lst
    exact call_list_of pins s σ H _ us Q I r ⟨a, vs, rfl, .inl (by rw [hK]; exact .of h), fun p hp => k _ _ (.alloc hp) (R.newL hp z r1)⟩
  · cases hd
    obtain ⟨a, vs, rfl, f, h, r1⟩ := hx.tup
    exact call_list_of pins s σ H _ us Q I r ⟨a, vs, rfl, .inr (by rw [hK]; exact h), fun p hp => k _ _ (.alloc hp) (R.newL hp z r1)⟩
  · cases hd
    rename_i kvs
    obtain ⟨a, ws, rfl, h, ek, r1⟩ := hx.dk
    refine call_listD hc pins s σ H _ us Q I r ⟨a, ws, rfl, h, fun p hp => k _ _ (.alloc hp) (R.newL hp z ?_)⟩
    have e1 : (ws.map fun kv => kV kv.1) = (kvs.map (·.1)).map kV := by rw [← ek, List.map_map]; rfl
    have e2 : (kvs.map fun kv => dKey kv.1) = (kvs.map (·.1)).map dKey := by rw [List.map_map]; rfl
    rw [e1, e2]
    clear e1 e2 r1 ek
    generalize kvs.map (·.1) = ks
    induction ks with
    | nil => exact .nil
    | cons c ks ih => exact .cons (R.kV c) ih
  · cases hd
    rename_i ns
    obtain ⟨a, rfl, h⟩ := hx.scr
    exact call_list_of pins s σ H _ us Q I r ⟨a, _, rfl, .inl (by rw [hK]; exact h), fun p hp => k _ _ (.alloc hp) (R.newL hp z (RA.ofInts ns))⟩
  · cases hd
theorem foldl_min : ∀ (r : List Int) (n : Int), r.foldl min n ≤ n ∧ (∀ y ∈ r, r.foldl min n ≤ y) ∧ (r.foldl min n = n ∨ r.foldl min n ∈ r)
  | [], n => ⟨Int.le_refl _, nofun, .inl rfl⟩
  | x :: r, n => by
    obtain ⟨h1, h2, h3⟩ := foldl_min r (min n x)
    simp only [List.foldl_cons]
    refine ⟨by omega, fun y hy => ?_, ?_⟩
    · rcases List.mem_cons.mp hy with rfl | hy
      · omega
      · exact h2 y hy
    · rcases h3 with h | h
      · rw [h]
        by_cases q : n ≤ x
        · exact .inl (by omega)
        · exact .inr (by rw [show min n x = x by omega]; exact List.mem_cons_self)
      · exact .inr (List.mem_cons_of_mem _ h)
theorem foldl_min_is {n m : Int} {r : List Int} (hm : m ∈ n :: r) (hl : ∀ y, y ∈ n :: r → m ≤ y) : m = r.foldl min n := by
  obtain ⟨h1, h2, h3⟩ := foldl_min r n
  have a : r.foldl min n ≤ m := by
    rcases List.mem_cons.mp hm with rfl | hm
    · exact h1
    · exact h2 m hm
  have b : m ≤ r.foldl min n := by
    rcases h3 with h | h
    · rw [h]; exact hl n List.mem_cons_self
    · exact hl _ (List.mem_cons_of_mem _ h)
  omega
theorem alike_ints (ns : List Int) : PySem.W.AlikeAll (ns.map PyData.int) := by
  refine ⟨fun x hx y hy => ?_, fun x hx => ?_⟩
  · obtain ⟨i, _, rfl⟩ := List.mem_map.mp hx
    obtain ⟨j, _, rfl⟩ := List.mem_map.mp hy
    simp [PySem.W.alike]
  · obtain ⟨i, _, rfl⟩ := List.mem_map.mp hx
    nofun
theorem cr1_minF (hK : X.K = T.K) (hc : X.calm = true) (hu : X.A.units + 64 < cLine) : CallR X (.builtin "min") (rC1 T minF) := by
  intro pins s σ H xs us Q I r ⟨x, e, Z, dx, d, z, hx, hd, k⟩
  subst e
  unfold minF at hd
  split at hd
  · obtain ⟨ns, hb, hd⟩ := Option.bind_eq_some_iff.mp hd
    obtain ⟨a, vs, rfl, h, r1⟩ := hx.lst
    have := r1.ints hb
    subst this
    split at hd
    · cases hd
    · cases hd
      exact cr_min hc pins s σ H _ us Q I r ⟨a, _, rfl, by rw [hK]; exact .of h, by simp, fun m h1 h2 => by rw [foldl_min_is h1 h2]; exact k _ _ (.refl _) (.int _)⟩
  · obtain ⟨ns, hb, hd⟩ := Option.bind_eq_some_iff.mp hd
    obtain ⟨a, vs, rfl, f, h, r1⟩ := hx.tup
    have := r1.ints hb
    subst this
    split at hd
    · cases hd
    · rename_i n r2
      cases hd
      obtain rfl := Vals.ref1 r
      obtain ⟨its, rv, pl, hz⟩ := I.tuple (hK ▸ h)
      obtain ⟨as, hr⟩ := Dp.readsAll I _ _ _ (Ls.dp_ints (K := X.K) (H := H) (n :: r2)) rv
      refine PySem.W.min_tuple_data (x := .int n) (xs := r2.map .int) (I.ok.hd hc) pl hr (alike_ints (n :: r2)) ?_ fun i v h' tk bs hv hrd hk => ?_
      · have : PyData.depthAll ((n :: r2).map PyData.int) = 0 := Ls.depthInts _
        rw [show (PyData.int n :: r2.map PyData.int) = (n :: r2).map PyData.int from rfl, this]
        omega
      · rw [PySem.W.minD_ints] at hrd
        cases hrd
        exact ⟨.int _, H, I.kept hk, ⟨_, rfl⟩, k _ _ (.refl _) (.int _)⟩
  · cases hd
theorem kv_vals {κ : Type} : ∀ {kvs : List (κ × V)} {vs : List (κ × Value)}, KV kvs vs → Vals (kvs.map (·.2)) (vs.map (·.2))
  | _, _, .nil => .nil
  | _, _, .cons r t => .cons r.2 (kv_vals t)
/-- list(d.values()) -/
theorem s_listVals {t : EO} (hc : X.calm = true) (gl : Gl X "list") (ml : X.mg "list" = none) (h : SO T F W X e t) (hbase : attributeBase e "values" X.env (eval e X.env) = eval e X.env := by rfl) (hline : (apos.endLine == cpos.line) = true := by rfl)
    (hs : starEach [.Call (.Attribute e "values" apos) [] [] cpos] X.env = (false, eval (.Call (.Attribute e "values" apos) [] [] cpos) X.env) :: starEach [] X.env := by rfl) :
    SE T F W X (.Call (.Name "list" p) [.Call (.Attribute e "values" apos) [] [] cpos] [] pos) (eOp1 listVals t) := by
  refine ⟨fun pins s σ H Q I hq => ?_⟩
  refine wpAny_Call_Name_kw (ld_blt I gl ml (u := .type "list") rfl ?_)
  refine PyProof.Rows.callWith_type1 ?_ hs rfl
  rw [hs]
  show wpAny _ _ (spliced ((false, eval (.Call (.Attribute e "values" apos) [] [] cpos) X.env) :: backTo pos (starEach [] X.env))) _ _ s
  refine Calls.spliced_cons ?_
  refine wpAny_Call_method (T := "dict") (id := "dict.values") hbase rfl hline PySem.F.plainAttrs_dict PySem.F.slot_dict_values PySem.F.type_dict_values (thn (h.run pins s σ H (fun x H1 => ∃ (a : Addr) (kvs : List (L2.Key × V)), x = .ref a ∧ Rd H1 a (.dK kvs) ∧ ∀ p, H1 p = none → Q (.ref p) (upd H1 p (.lst (kvs.map (·.2))))) I ?_) fun u s1 ⟨x, H1, I1, rx, a, kvs, ex, hd, q1⟩ => ?_)
  · refine den.bind hq fun oa ρ1 g0 H0 g1 H1 x s1 e1 r1 p1 => ?_
    obtain ⟨d, hd, p3⟩ := Po.of p1
    obtain ⟨dx, q1, hd⟩ := Option.bind_eq_some_iff.mp hd
    have rv := r1.rv e1 q1
    cases dx <;> simp only [listVals, reduceCtorEq, Option.some.injEq] at hd
    subst hd
    obtain ⟨a, vs, rfl, ha, ek, ra⟩ := rv.dk
    exact ⟨a, vs, rfl, ha, fun p hp => p3 _ g1 _ (.gr (.alloc hp) e1) (e1.gr (.alloc hp)) (R.newL hp e1.zl ra)⟩
  · subst ex
    obtain rfl : u = Value.ref a := rx
    obtain ⟨hz, hs0, vs, kv, hdo⟩ := dk_rd I1.hok hd
    obtain ⟨ep, hat⟩ := hdo.dictAt
    have lk : kvs.length = vs.length := kv.length
    refine ⟨hdo.typeIs, hdo.mapOf.noDict, ?_⟩
    show wpAny _ _ (callWith cpos (.builtin "dict.values") [.ref a] [] []) _ X.xe s1
    refine method_meetsIn PySem.F.slot_dict_values PySem.F.entry_dict_values rfl (PySem.evalArgs_none ⟨rfl, hdo.typeIs, PySem.F.args_dict_values_1 _, _, meets_dict_values (mixKind X.prog X.w) a hs0, ⟨vs, hdo⟩, ?_⟩)
    refine Calls.spliced_nil ?_
    have k1 : ∀ b u, s1.heap.get? b = some u → (s1.heap.push { cls := .type "dict_values", data := .fields #[.ref a] }).get? b = some u := fun b u e => Heap.get?_push_of_some _ e
    have I2 : Inv X pins σ H1 { s1 with heap := s1.heap.push { cls := .type "dict_values", data := .fields #[.ref a] } } := I1.kept (t' := s1.toks) k1
    refine PySem.W.kdl_call (PySem.W.kdl_values (knd := mixKind X.prog X.w) (kvs := vs) (ep := ep)) (I1.ok.hd hc) ⟨⟨_, Heap.get?_push_size _ rfl, rfl, rfl⟩, hat.push _⟩ (by rw [← lk]; exact hz) fun h' tk acc c' hk hD hacc => ?_
    have hl := PySem.W.kdl_vals_eq (kvs := vs) acc.toList (by rw [Array.length_toList]; exact hacc.1) (fun j v e => hacc.2 j v (by rw [← Array.getElem?_toList]; exact e))
    have le : (s1.heap.push { cls := .type "dict_values", data := .fields #[.ref a] }).objs.size ≥ s1.heap.objs.size := by rw [Heap.size_push]; exact Nat.le_succ _
    have hv : Vals (kvs.map (·.2)) acc.toList := by
      rw [hl]
      exact kv_vals kv
    exact ⟨.ref _, upd H1 _ (.lst (kvs.map (·.2))), I2.laid (t' := tk) hk (Nat.le_refl _) (show ObjOk X.prog X.w _ _ _ (.lst (kvs.map (·.2))) from ⟨by rw [List.length_map]; exact hz, acc.toList, c', hv, by rw [Array.toArray_toList]; exact hD⟩), rfl, q1 _ (I2.hok.fresh (Nat.le_refl _))⟩
end
end Lc
namespace Lc
open PySem L2
def strRep (x : Str) (n : Nat) : Str := ⟨(List.replicate n x.cps).foldl (· ++ ·) #[]⟩
def D.mulS : D → D → Option D
  | .str x, .int n => if 2 ≤ n ∧ n ≤ 1000 ∧ 1 ≤ x.length ∧ x.length ≤ 1000 then some (.str (strRep x n.toNat)) else none
  | _, _ => none
section
variable {T : Tx} {F : Fm} {X : Cx} {pos : Pos} {es : List Expr} {tv : List Nat} {fs : List GT}
theorem fold_len (a : Array Nat) : ∀ (n : Nat) (b : Array Nat), ((List.replicate n a).foldl (· ++ ·) b).size = b.size + n * a.size
  | 0, b => by simp
  | n + 1, b => by rw [List.replicate_succ, List.foldl_cons, fold_len a n, Array.size_append, Nat.succ_mul]; omega
theorem opr_mulS : OpR X (binaryOp .Mult) (rD2 T D.mulS) := by
  intro pins s σ H x y v u Q I rx ry ⟨Z, dx, dy, d, z, hx, hy, hd, k⟩
  unfold D.mulS at hd
  split at hd
  · rename_i x n
    split at hd
    · rename_i h
      cases hd; cases hx.str; cases hy.int
      obtain ⟨t, rfl⟩ := rx
      obtain ⟨u, rfl⟩ := ry
      obtain ⟨h1, h2, h3, h4⟩ := h
      have hm : x.length * n.toNat ≤ 1000 * 1000 := Nat.mul_le_mul h4 (by omega)
      have hb : (n == 1 || x.length == 0) = false := by
        rw [Bool.or_eq_false_iff]
        exact ⟨by rw [beq_eq_false_iff_ne]; omega, by rw [beq_eq_false_iff_ne]; omega⟩
      refine PySem.P.mul_str (by rw [decide_eq_false (by omega), decide_eq_false (by omega)]; rfl) (fun _ _ => ?_) (fun _ _ => ?_) ?_
      · have : (1000 : Int) ≤ (2 ^ 63 - 1) / n := by
          rw [Int.le_ediv_iff_mul_le (by omega)]
          omega
        omega
      · unfold Builtin.Str.tooLong
        rw [decide_eq_false_iff_not, sizeLine_eq]
        omega
      · rw [if_neg (by omega), if_neg (by rw [hb]; exact Bool.false_ne_true)]
        refine ⟨?_, ⟨.str (strRep x n.toNat), H, I.tok _, ⟨_, rfl⟩, k _ _ (.refl _) (.str _)⟩⟩
        show ((List.replicate n.toNat x.cps).foldl (· ++ ·) #[]).size ≤ _
        rw [fold_len, sizeLine_eq]
        have : x.cps.size = x.length := rfl
        rw [this, Nat.mul_comm]
        have : (#[] : Array Nat).size = 0 := rfl
        omega
    · cases hd
  · cases hd
theorem g_lst {k : Nat} {n : Nat} (hK : X.K = T.K) (hc : X.calm = true) (h : PGs X es (denGs T F tv (gTupT.go fs))) (hl : fs.length = n := by rfl)
    (hn : (assignEach es X.env).length = n := by rfl) (hst : (assignEach es X.env).findIdx? (·.1) = none := by rfl) : PG X (.Tuple es k pos) (denG T F tv (gLstT fs)) := by
  refine pg_imp (pg_unl hc h hn hst) fun v σ H Q q => ?_
  obtain ⟨g, ρ, d, ρ', s, r, e, k⟩ := q
  cases d <;> simp only [gLstT, reduceCtorEq] at e
  obtain ⟨a, xs, rfl, h1, ra⟩ := (Rv.of r).lst
  refine ⟨a, xs, rfl, .of h1, ?_, g, ρ, _, ρ', s, ra, e, k⟩
  rw [ra.len, ← hl]
  clear hl h k s h1 ra r
  rename_i ds
  revert ρ
  induction fs generalizing ds with
  | nil => intro ρ e; cases ds with
    | nil => rfl
    | cons => cases e
  | cons f fs ih => intro ρ e; cases ds with
    | nil => cases e
    | cons d ds =>
      simp only [gTupT.go, Option.bind_eq_some_iff] at e
      obtain ⟨ρ1, _, e2⟩ := e
      have := ih _ _ e2
      simp [this]
end
end Lc
namespace Lc
open PySem L2
def intsL : D → Option (List Int)
  | .lst xs => D.ints xs
  | _ => none
def eOmNew (t1 t2 : EE) (k : Int) : EE := fun ρ => (t1 ρ).bind fun d1 ρ => (t2 ρ).bind fun d2 ρ => match intsL d1, intsL d2 with
  | some cs, some ls => .ok (.om ⟨cs, ls, k⟩) ρ
  | _, _ => .no
def omAt (i : Nat) (f : MSt → Option D) : EE := fun ρ => match ρ.getD i .no with
  | .ow (.om m) => Res.of (f m) ρ
  | _ => .no
def omSet (i : Nat) (f : MSt → Option MSt) : ES := fun ρ => match ρ.getD i .no with
  | .ow (.om m) => (match f m with
    | some m' => .nx (ρ.set i (.ow (.om m')))
    | none => .no)
  | _ => .no
def omSetI (i : Nat) (t : EE) (f : MSt → Int → Option MSt) : ES := fun ρ => (t ρ).thenS fun d ρ => match d with
  | .int k => omSet i (fun m => f m k) ρ
  | _ => .no
theorem ints_eq : ∀ {ds : List D} {ns : List Int}, D.ints ds = some ns → ds = ns.map .int
  | [], _, h => by cases h; rfl
  | d :: r, _, h => by
    cases d <;> simp only [D.ints, reduceCtorEq] at h
    obtain ⟨ms, h2, rfl⟩ := Option.map_eq_some_iff.mp h
    rw [List.map_cons, ← ints_eq h2]
section
variable {T : Tx} {F : Fm} {W : WX'} {X : Cx} {e1 e2 : Expr} {pos p p2 p3 p4 p5 : Pos} {k1 k2 k3 k4 : Nat} {i : Nat} {x : Str}
theorem n_om {t1 t2 : EE} {k : Int} (h1 : ∀ D, SE T (F.blk [] D) W X e1 t1) (h2 : ∀ D, SN T (F.blk [] D) W X e2 t2) :
    SN T F W X (.Dict [some (.Constant (.str "cells") k1 p), some (.Constant (.str "left") k2 p2), some (.Constant (.str "at") k3 p3)] [e1, e2, .Constant (.int k) k4 p4] pos) (eOmNew t1 t2 k) := by
  refine pe_imp (pe_disp (pps_cons pe_str (pe_any h1) (pps_cons pe_str (pe_any h2) (pps_cons pe_str pe_int pps_nil))) rfl rfl (by simp) (by simp)) fun σ H Q q p hp => ?_
  obtain ⟨g, ρ, s, q⟩ := q
  obtain ⟨a1, a2, a3, a4⟩ := s.more (fp := [p]) (.alloc (o := .dK []) hp) (fun a ha => by cases List.mem_singleton.mp ha; exact ⟨hp, _, upd_same⟩)
  have hz := (a3 p (by simp)).1
  have hy := (a3 p (by simp)).2
  have b := a2.toBlk (ws := []) hz fun i e q a ha e2 => a4 i e q a ha (by simp [e2])
  unfold eOmNew at q
  refine ⟨p, g.more [p], ρ, b, ?_⟩
  cases h1 : t1 ρ with
  | no => rw [h1] at q; exact q.elim
  | ex x ρ' =>
    rw [h1] at q
    exact fun cls d g' H' s' e' r' => q cls d g' H' (a1.trans s'.ofBlk) (SR.ofBlk0 s e').1 r'
  | ok d1 ρ1 =>
    rw [h1] at q
    intro x g1 H1 s1 e1 r1
    refine ⟨p, g1, ρ1, e1, ?_⟩
    simp only [Res.bind] at q
    cases h2 : t2 ρ1 with
    | no => rw [h2] at q; exact q.elim
    | ex x ρ' =>
      rw [h2] at q
      exact fun cls d g' H' s' e' r' => q cls d g' H' ((a1.trans s1.ofBlk).trans s'.ofBlk) (SR.ofBlk0 s e').1 r'
    | ok d2 ρ2 =>
      rw [h2] at q
      intro y g2 H2 s2 e2 r2
      have hp2 : H2 p = some (.dK []) := (s2.pr p (.inr rfl)).trans ((s1.pr p (.inr rfl)).trans upd_same)
      simp only at q
      split at q
      · rename_i cs ls hc hl
        cases d1 <;> simp only [intsL, reduceCtorEq] at hc
        cases d2 <;> simp only [intsL, reduceCtorEq] at hl
        rename_i ds es
        have hds := ints_eq hc
        have hes := ints_eq hl
        subst hds hes
        obtain ⟨fp, o, hz3, hd3⟩ := r2
        cases o with
        | @lst l xs _ hH ra =>
        have := ra.ints hl
        subst this
        have hlz := (hz3 l (by simp)).1
        have hpl : p ≠ l := fun e => (hz3 l (by simp)).2 (.inr e.symm)
        obtain ⟨c, zs, rfl, _, _⟩ := (Rv.of r1).lst
        refine ⟨hp2, [(.inr "cells", .ref c), (.inr "left", .ref l), (.inr "at", .int k)], rfl, by simp, ?_⟩
        have hz2 : g2.Z p := e2.yz p (.inr rfl)
        obtain ⟨w1, w2, w3⟩ := e2.writeD (o' := .dK [(.inr "cells", .ref c), (.inr "left", .ref l), (.inr "at", .int k)]) hz2 hy hp2 (fun _ h => (nomatch h)) (fun _ _ h => (nomatch h))
        obtain ⟨c1, c2⟩ := SR.ofBlk0 s w2
        have e3 : mergeK [] [((.inr "cells" : L2.Key), V.ref c), (.inr "left", .ref l), (.inr "at", .int k)] = [(.inr "cells", .ref c), (.inr "left", .ref l), (.inr "at", .int k)] := by
          rfl
        rw [e3]
        refine q _ g2 _ (((a1.trans s1.ofBlk).trans s2.ofBlk).trans w1) c1 ⟨[p, l], .om upd_same ((upd_ne (Ne.symm hpl)).trans hH) (R.step w3 (R.step s2.st r1)) hpl, fun a ha => ?_, fun i e q a ha => ?_⟩
        · rcases (by simpa using ha : a = p ∨ a = l) with rfl | rfl
          · exact ⟨hz2, hy⟩
          · exact ⟨hlz, fun y => (hz3 a (by simp)).2 (.inl y)⟩
        · have := c2 i e q a ha
          have h4 := hd3 i e q a ha
          simp only [List.mem_cons, List.not_mem_nil, or_false, not_or] at h4 ⊢
          exact ⟨this, h4⟩
      · exact q.elim
theorem dk_nt (ws : List (L2.Key × V)) : (∀ ps, some (HO.dK ws) ≠ some (.tbl ps)) ∧ ∀ o u, some (HO.dK ws) ≠ some (.frz o u) := ⟨fun _ h => (by cases h), fun _ _ h => (by cases h)⟩
theorem lst_nt (ws : List V) : (∀ ps, some (HO.lst ws) ≠ some (.tbl ps)) ∧ ∀ o u, some (HO.lst ws) ≠ some (.frz o u) := ⟨fun _ h => (by cases h), fun _ _ h => (by cases h)⟩
/-- what stands at m -/
theorem om_at {g : Gh} {ρ : List Sl} {σ : St} {H : Hp} {m : MSt} (s : SR T F g ρ σ H) (h : ρ.getD i .no = .ow (.om m)) : ρ[i]? = some (.ow (.om m)) ∧ ∃ a l c, σ[i]? = some (some (.ref a)) ∧ g.fp i = [a, l] ∧
    H a = some (.dK [(.inr "cells", .ref c), (.inr "left", .ref l), (.inr "at", .int m.at_)]) ∧ H l = some (.lst (m.left.map V.int)) ∧ R T H g.Z (.ref c) (.lst (m.cells.map D.int)) ∧ a ≠ l ∧ (g.Z a ∧ ¬ F.Y a) ∧ (g.Z l ∧ ¬ F.Y l) := by
  have h := getD_some h (by simp)
  obtain ⟨v, hv, o, hz⟩ := s.ow i _ h
  generalize hf : g.fp i = fp at o hz
  cases o with
  | om b1 b2 b3 b4 => exact ⟨h, _, _, _, hv, rfl, b1, b2, b3, b4, hz _ (by simp), hz _ (by simp)⟩
theorem omAt_den {f : MSt → Option D} {σ : St} {H : Hp} {Q : VK} (q : den T F W (rV T) (omAt i f) σ H Q) : ∃ g ρ m d, SR T F g ρ σ H ∧ ρ.getD i .no = .ow (.om m) ∧ f m = some d ∧ Po T F W (rV T) (.ok d ρ) g σ H Q := by
  obtain ⟨g, ρ, s, q⟩ := q
  unfold omAt at q
  split at q
  · rename_i m e
    obtain ⟨d, hd, q⟩ := Po.of q
    exact ⟨g, ρ, m, d, s, e, hd, q⟩
  · exact q.elim
theorem ints_pys : ∀ ns : List Int, D.pys (ns.map D.int) = some (ns.map PyData.int)
  | [] => rfl
  | n :: r => by simp only [List.map_cons, D.pys, D.py, ints_pys r]
theorem ints_py (ns : List Int) : D.py (.lst (ns.map D.int)) = some (.list (ns.map PyData.int)) := by simp only [D.py, ints_pys, Option.map_some]
theorem lay_ints : ∀ ns : List Int, PyData.canLayAll0 (ns.map PyData.int) = true
  | [] => by simp [PyData.canLayAll0]
  | n :: r => by simp [PyData.canLayAll0, PyData.canLay0, lay_ints r]
theorem shaped_ints (ns : List Int) : SeqAt.shaped (.list (ns.map PyData.int)) = true := by
  simp only [SeqAt.shaped, PyData.canLay0, lay_ints, PyData.depth, Ls.depthInts]
  decide
def omInt (m : MSt) : Option D := some (.int m.at_)
def omCells (m : MSt) : Option D := some (.lst (m.cells.map D.int))
def omLeft (m : MSt) : Option D := some (.bl (!m.left.isEmpty))
def omHead (m : MSt) : Option D := m.left.head?.map .int
variable (hN : X.N[i]? = some x) (hv : Vis X.env.scope x) (hu : X.A.units + 64 < cLine) (hd : (x == ("__debug__" : Str)) = false) (hcd : (x == ("__classdict__" : Str)) = false)
include hN hv hu hd hcd
theorem e_omInt : SE T F W X (.Subscript (.Name x p) (.Constant (.str "at") k1 p2) pos) (omAt i omInt) := by
  refine pe_imp (pe_dget (by omega) (pe_var hN hv hd hcd) pe_str (by intro _ _; rfl)) fun σ H Q q => ?_
  obtain ⟨g, ρ, m, d, s, e, hd, q⟩ := omAt_den q
  cases hd
  obtain ⟨_, a, l, c, h1, h2, h3, h4, h5, h6, h7, h8⟩ := om_at s e
  exact ⟨.ref a, h1, a, .int m.at_, rfl, DGet.k (k := .inr "at") h3, q.ok s (.int _)⟩
theorem e_omCells : SE T F W X (.Subscript (.Name x p) (.Constant (.str "cells") k1 p2) pos) (omAt i omCells) := by
  refine pe_imp (pe_dget (by omega) (pe_var hN hv hd hcd) pe_str (by intro _ _; rfl)) fun σ H Q q => ?_
  obtain ⟨g, ρ, m, d, s, e, hd, q⟩ := omAt_den q
  cases hd
  obtain ⟨_, a, l, c, h1, h2, h3, h4, h5, h6, h7, h8⟩ := om_at s e
  exact ⟨.ref a, h1, a, .ref c, rfl, DGet.k (k := .inr "cells") h3, q.ok s h5⟩
theorem pe_omL : PE X (.Subscript (.Name x p) (.Constant (.str "left") k1 p2) pos) (fun σ H Q => ∃ (a l c : Addr) (k : Int), σ[i]? = some (some (.ref a)) ∧ H a = some (.dK [(.inr "cells", .ref c), (.inr "left", .ref l), (.inr "at", .int k)]) ∧ Q (.ref l) H) := by
  refine pe_imp (pe_dget (by omega) (pe_var hN hv hd hcd) pe_str (by intro _ _; rfl)) fun σ H Q ⟨a, l, c, k, h1, h2, q⟩ => ?_
  exact ⟨.ref a, h1, a, .ref l, rfl, DGet.k (k := .inr "left") h2, q⟩
theorem e_omHead (hK : X.K = T.K) : SE T F W X (.Subscript (.Subscript (.Name x p) (.Constant (.str "left") k1 p2) p3) (.Constant (.int 0) k2 p4) pos) (omAt i omHead) := by
  refine pe_imp (pe_ix (ixr (T := T) hK) (pe_omL hN hv hu hd hcd) pe_int (by intro _ _; rfl)) fun σ H Q q => ?_
  obtain ⟨g, ρ, m, d, s, e, hd, q⟩ := omAt_den q
  obtain ⟨_, a, l, c, h1, h2, h3, h4, h5, h6, h7, h8⟩ := om_at s e
  obtain ⟨k, hk, rfl⟩ := Option.map_eq_some_iff.mp hd
  refine ⟨a, l, c, _, h1, h3, g.Z, .lst (m.left.map D.int), .int 0, .int k, s.zl, .inr ⟨[l], .lst h4 (RA.ofInts _)⟩, .inl (.int _), ?_, fun v H' gr r => q v g H' (.gr gr s) (s.gr gr) r⟩
  obtain ⟨cs, ls, at_⟩ := m
  cases ls with
  | nil => cases hk
  | cons z r =>
    cases hk
    show atI (D.int k :: r.map D.int) 0 = some (.int k)
    unfold atI ixN
    rw [if_pos (Int.le_refl _), if_pos (by simp only [List.length_cons]; omega)]
    rfl
theorem e_omLeft (hK : X.K = T.K) : SE T F W X (.Compare (.Subscript (.Name x p) (.Constant (.str "left") k1 p2) p3) [.NotEq] [.List [] p4] pos) (omAt i omLeft) := by
  refine pe_imp (pe_cmpR (opr_ne (T := T) hK hu) (pe_omL hN hv hu hd hcd) (pe_lst pa_nil) (nobehind _ (by decide) (by decide))) fun σ H Q q => ?_
  obtain ⟨g, ρ, m, d, s, e, hd, q⟩ := omAt_den q
  cases hd
  obtain ⟨_, a, l, c, h1, h2, h3, h4, h5, h6, h7, h8⟩ := om_at s e
  refine ⟨a, l, c, _, h1, h3, Nat.zero_le _, fun b hb => ?_⟩
  have gr : Gr H (upd H b (.lst [])) := .alloc hb
  have s2 := s.gr gr
  refine ⟨g.Z, .lst (m.left.map D.int), .lst [], .bl (!m.left.isEmpty), s2.zl, .inr ⟨[l], .lst (gr _ _ h4) (RA.ofInts _)⟩, .inl (.lst upd_same (fun z => s.zl b z hb) .nil), ?_, fun v H' gr2 r => q v g H' (.gr (gr.trans gr2) s) (s2.gr gr2) r⟩
  unfold D.neD D.eqB
  rw [ints_py, show D.py (.lst []) = some (.list []) from rfl]
  simp only [shaped_ints, show SeqAt.shaped (.list []) = true from rfl, Bool.and_self, if_true, oB, Option.map_some]
  cases m.left <;> rfl
omit hN hv hu hd hcd in
theorem SR.writeZ {g : Gh} {ρ : List Sl} {σ : St} {H : Hp} {a : Addr} {o o' : HO} (s : SR T F g ρ σ H) (hz : g.Z a) (hy : ¬ F.Y a) (off : ∀ (j : Nat) (e : D), ρ[j]? = some (Sl.ow e) → a ∉ g.fp j) (h : H a = some o) (n1 : ∀ ps, o ≠ .tbl ps) (n2 : ∀ b u, o ≠ .frz b u) :
    Stp F g H g (upd H a o') ∧ SR T F g ρ σ (upd H a o') ∧ Step H g.Z (upd H a o') g.Z := by
  have st : Step H g.Z (upd H a o') g.Z := by
    refine ⟨fun b u e nz _ => ?_, fun b z => .inl z, fun b u e => ?_, fun b ps e => ?_, fun b u xs e => ?_, fun b u _ e nz => ?_⟩
    · rw [upd_ne fun q => nz (by rw [q]; exact hz)]; exact e
    · by_cases hb : b = a
      · exact ⟨o', by rw [hb]; exact upd_same⟩
      · exact ⟨u, by rw [upd_ne hb]; exact e⟩
    · refine ⟨ps, ?_⟩
      by_cases hb : b = a
      · rw [hb, h] at e; exact absurd (Option.some.inj e) (n1 _)
      · rw [upd_ne hb]; exact e
    · by_cases hb : b = a
      · rw [hb, h] at e; exact absurd (Option.some.inj e) (n2 _ _)
      · rw [upd_ne hb]; exact e
    · unfold Rd at e ⊢
      rw [upd_ne fun q => nz (by rw [q]; exact hz)]; exact e
  refine ⟨⟨st, fun b y => upd_ne fun q => hy (q ▸ y)⟩, ⟨s.len, fun i d q => ?_, fun i d q => ?_, s.dj, s.yz, fun b z => ?_, s.pin⟩, st⟩
  · obtain ⟨v, hv, r⟩ := s.fz i d q
    exact ⟨v, hv, R.step st r⟩
  · obtain ⟨v, hv, o2, hz2⟩ := s.ow i d q
    exact ⟨v, hv, o2.step st (fun b hb => upd_ne fun e => off i d q (e ▸ hb)), hz2⟩
  · by_cases hb : b = a
    · rw [hb, upd_same]; simp
    · rw [upd_ne hb]; exact s.zl b z
omit hN hv hu hd hcd in
theorem cutI (ns : List Int) (lo hi : Option Int) : cutV (ns.map V.int) lo hi = (cutL ns lo hi).map V.int := by
  unfold cutV cutL
  rw [List.length_map, List.map_take, List.map_drop]
def omTail (m : MSt) : Option MSt := some { m with left := cutL m.left (some 1) none }
def omAtS (m : MSt) (k : Int) : Option MSt := some { m with at_ := k }
def omHeadS (m : MSt) (k : Int) : Option MSt := match m.left with
  | [] => none
  | _ :: r => some { m with left := k :: r }
omit hN hv hu hd hcd in
theorem omSet_den {f : MSt → Option MSt} {σ : St} {H : Hp} {En : Ends} (q : denS T F W (omSet i f) En σ H) : ∃ g ρ m m', SR T F g ρ σ H ∧ ρ.getD i .no = .ow (.om m) ∧ f m = some m' ∧ PoS T F W (.nx (ρ.set i (.ow (.om m')))) g H En := by
  obtain ⟨g, ρ, s, q⟩ := q
  unfold omSet at q
  split at q
  · rename_i m e
    split at q
    · rename_i m' e2
      exact ⟨g, ρ, m, m', s, e, e2, q⟩
    · exact q.elim
  · exact q.elim
theorem k_omTail {q1 q2 q3 q4 q5 q6 spos : Pos} {j1 j2 : Nat} (hs : swapsWith (.Subscript (.Subscript (.Name x q1) (.Constant (.str "left") k2 q2) q3) (.Slice (some (.Constant (.int 1) j1 q4)) none none q5) q6) (some (.Subscript (.Name x p) (.Constant (.str "left") k1 p2) p3)) spos.line X.env = pure false) :
    SS T F W X (.Assign [.Subscript (.Name x p) (.Constant (.str "left") k1 p2) p3] (.Subscript (.Subscript (.Name x q1) (.Constant (.str "left") k2 q2) q3) (.Slice (some (.Constant (.int 1) j1 q4)) none none q5) q6) spos) (omSet i omTail) := by
  refine ps_imp (ps_dput (by omega) (pe_var hN hv hd hcd) pe_str (pe_slice sl_list (pe_omL hN hv hu hd hcd) (po_some pe_int) po_none) hs) fun En σ H q => ?_
  obtain ⟨g, ρ, m, m', s, e, hm, q⟩ := omSet_den q
  cases hm
  obtain ⟨e0, a, l, c, h1, h2, h3, h4, h5, h6, h7, h8⟩ := om_at s e
  refine ⟨a, l, c, _, h1, h3, 1, rfl, l, m.left.map V.int, rfl, .of h4, fun b hb => ?_⟩
  have gr : Gr H (upd H b (.lst (cutV (m.left.map V.int) (some 1) none))) := .alloc hb
  refine ⟨.ref a, h1, a, _, rfl, DPut.k (k := .inr "left") (gr _ _ h3) (by show 3 < sizeLine; decide), ?_⟩
  obtain ⟨a1, a2, a3, a4⟩ := (s.drop i).more (fp := [b]) gr (fun z hz => by cases List.mem_singleton.mp hz; exact ⟨hb, _, upd_same⟩)
  have off : ∀ (j : Nat) (e : D), (ρ.set i Sl.no)[j]? = some (Sl.ow e) → a ∉ g.fp j := fun j e2 hj ha => by
    rw [List.getElem?_set] at hj
    split at hj
    · split at hj <;> cases hj
    · rename_i ne
      refine s.dj i j _ _ ne e0 hj a ?_ ha
      rw [h2]; simp
  obtain ⟨w1, w2, w3⟩ := a2.writeZ (a := a) (o' := .dK [(.inr "cells", .ref c), (.inr "left", .ref b), (.inr "at", .int m.at_)]) (.inl h7.1) h7.2 off (gr _ _ h3) (fun _ h => nomatch h) (fun _ _ h => nomatch h)
  have hba : b ≠ a := fun e => by rw [e, h3] at hb; cases hb
  have hput : putK [((.inr "cells" : L2.Key), V.ref c), (.inr "left", .ref l), (.inr "at", .int m.at_)] (.inr "left") (.ref b) = [(.inr "cells", .ref c), (.inr "left", .ref b), (.inr "at", .int m.at_)] := by rfl
  rw [hput]
  have st1 : Stp F g H (g.more [b]) (upd H b (.lst (cutV (m.left.map V.int) (some 1) none))) := a1
  have own : Own T _ (g.more [b]).Z (.ref a) (.om { m with left := cutL m.left (some 1) none }) [a, b] := .om upd_same ((upd_ne hba).trans (upd_same.trans (by rw [cutI]))) (R.step w3 (R.step st1.st h5)) (Ne.symm hba)
  have w9 : SR T ⟨F.Y, fun _ => false, F.s0⟩ _ _ _ _ := ⟨w2.len, w2.fz, w2.ow, w2.dj, w2.yz, w2.zl, fun i h => by cases h⟩
  have r := w9.setOw (i := i) (v := .ref a) rfl own (fun z hz => by
    rcases (by simpa using hz : z = a ∨ z = b) with rfl | rfl
    · exact ⟨.inl h7.1, h7.2⟩
    · exact a3 _ (by simp)) (fun j e2 hj z hz => by
    have h9 := off j e2 hj
    have h10 := a4 j e2 hj z hz
    simp only [List.mem_cons, List.not_mem_nil, or_false, not_or] at h10 ⊢
    exact ⟨fun e => h9 (e ▸ hz), h10⟩)
  rw [List.set_set] at r
  have es : σ.set i (some (.ref a)) = σ := by
    apply List.ext_getElem?
    intro j
    rw [List.getElem?_set]
    split
    · rename_i e; subst e
      rw [h1]
      have := (List.getElem?_eq_some_iff.mp h1).1
      simp [this]
    · rfl
  rw [es] at r
  exact q σ _ _ ((st1.trans w1).trans .at) ⟨r.len, r.fz, r.ow, r.dj, r.yz, r.zl, w2.pin⟩
omit hN hv hu hd hcd in
theorem omSetI_den {t : EE} {f : MSt → Int → Option MSt} {σ : St} {H : Hp} {En : Ends} (q : denS T F W (omSetI i t f) En σ H) : den T F W (rV T) t σ H fun v H1 => ∃ k, v = .int k ∧ ∃ g ρ m m', SR T F g ρ σ H1 ∧ ρ.getD i .no = .ow (.om m) ∧ f m k = some m' ∧ PoS T F W (.nx (ρ.set i (.ow (.om m')))) g H1 En := by
  refine denS.bind q fun d ρ1 g0 H0 g1 H1 v s1 e1 r1 p1 => ?_
  cases d <;> try exact p1.elim
  rename_i k
  cases r1
  obtain ⟨g, ρ, m, m', s, e, hm, q⟩ := omSet_den (T := T) (F := F) (W := W) (f := fun m => f m k) (σ := σ) (H := H1) (En := En) ⟨g1, ρ1, e1, p1⟩
  exact ⟨k, rfl, g, ρ, m, m', s, e, hm, q⟩
theorem k_omAt {ve : Expr} {t : EE} {spos : Pos} (h : SE T F W X ve t) (hs : swapsWith ve (some (.Subscript (.Name x p) (.Constant (.str "at") k1 p2) p3)) spos.line X.env = pure false) :
    SS T F W X (.Assign [.Subscript (.Name x p) (.Constant (.str "at") k1 p2) p3] ve spos) (omSetI i t omAtS) := by
  refine ps_imp (ps_dput (by omega) (pe_var hN hv hd hcd) pe_str h hs) fun En σ H q => ?_
  obtain ⟨g9, ρ9, s9, q⟩ := omSetI_den q
  refine ⟨g9, ρ9, s9, Po.imp q ?_⟩
  rintro v H1 ⟨k, rfl, g, ρ, m, m', s, e, hm, q⟩
  cases hm
  obtain ⟨e0, a, l, c, h1, h2, h3, h4, h5, h6, h7, h8⟩ := om_at s e
  refine ⟨.ref a, h1, a, _, rfl, DPut.k (k := .inr "at") h3 (by show 3 < sizeLine; decide), ?_⟩
  have hput : putK [((.inr "cells" : L2.Key), V.ref c), (.inr "left", .ref l), (.inr "at", .int m.at_)] (.inr "at") (.int k) = [(.inr "cells", .ref c), (.inr "left", .ref l), (.inr "at", .int k)] := by rfl
  rw [hput]
  obtain ⟨w1, w2⟩ := s.wr1 (d' := .om { m with at_ := k }) (o' := .dK [(.inr "cells", .ref c), (.inr "left", .ref l), (.inr "at", .int k)]) e0 (a := a) (by rw [h2]; simp) h3 (fun _ h => nomatch h) (fun _ _ h => nomatch h)
    (by
      rw [h2]; intro b hb
      rcases (by simpa using hb : b = a ∨ b = l) with rfl | rfl
      · rw [h3]; exact dk_nt _
      · rw [h4]; exact lst_nt _)
    (by
      rw [h2]; intro b hb
      rcases (by simpa using hb : b = a ∨ b = l) with rfl | rfl
      · exact ⟨_, h3⟩
      · exact ⟨_, h4⟩)
    (fun v hv2 st => by
      rw [h1] at hv2; cases hv2
      rw [h2]
      exact .om upd_same ((upd_ne (Ne.symm h6)).trans h4) (R.step st h5) h6)
  exact q σ _ _ w1 w2
theorem k_omHead {ve : Expr} {t : EE} {spos : Pos} (h : SE T F W X ve t)
    (mk : ∀ {to ti te : TE}, PE X (.Subscript (.Name x p) (.Constant (.str "left") k1 p2) p3) to → PE X (.Constant (.int 0) k2 p4) ti → PE X ve te → PS X (.Assign [.Subscript (.Subscript (.Name x p) (.Constant (.str "left") k1 p2) p3) (.Constant (.int 0) k2 p4) p5] ve spos) (tAsg te (gSub to ti rSetL))) :
    SS T F W X (.Assign [.Subscript (.Subscript (.Name x p) (.Constant (.str "left") k1 p2) p3) (.Constant (.int 0) k2 p4) p5] ve spos) (omSetI i t omHeadS) := by
  refine ps_imp (mk (pe_omL hN hv hu hd hcd) pe_int h) fun En σ H q => ?_
  obtain ⟨g9, ρ9, s9, q⟩ := omSetI_den q
  refine ⟨g9, ρ9, s9, Po.imp q ?_⟩
  rintro v H1 ⟨k, rfl, g, ρ, m, m', s, e, hm, q⟩
  obtain ⟨e0, a, l, c, h1, h2, h3, h4, h5, h6, h7, h8⟩ := om_at s e
  obtain ⟨cs, ls, at_⟩ := m
  cases ls with
  | nil => cases hm
  | cons z r =>
    cases hm
    refine ⟨a, l, c, _, h1, h3, l, _, 0, 0, rfl, rfl, h4, ?_, ?_⟩
    · unfold ixN
      rw [if_pos (Int.le_refl _), if_pos (by simp only [List.map_cons, List.length_cons]; omega)]
      rfl
    · obtain ⟨w1, w2⟩ := s.wr1 (d' := .om ⟨cs, k :: r, at_⟩) (o' := .lst ((List.map V.int (z :: r)).set 0 (.int k))) e0 (a := l) (by rw [h2]; simp) h4 (fun _ h => nomatch h) (fun _ _ h => nomatch h)
        (by
          rw [h2]; intro b hb
          rcases (by simpa using hb : b = a ∨ b = l) with rfl | rfl
          · rw [h3]; exact dk_nt _
          · rw [h4]; exact lst_nt _)
        (by
          rw [h2]; intro b hb
          rcases (by simpa using hb : b = a ∨ b = l) with rfl | rfl
          · exact ⟨_, h3⟩
          · exact ⟨_, h4⟩)
        (fun v hv2 st => by
          rw [h1] at hv2; cases hv2
          rw [h2]
          exact .om ((upd_ne h6).trans h3) upd_same (R.step st h5) h6)
      exact q σ _ _ w1 w2
end
end Lc
namespace Lc
open PySem L2 He
def obsX (fa : List Fa) (fc : PySem.W.Frag → Bool) (fn : List DefD) (K : PySem.W.Frag) : AlD := ((fa.all fun f => f.ok K) && (fc K && fn.all fun d => d.ok K), fn.map fun d => fnW K d.at_)
def SaysX (fa : List Fa) (fc : PySem.W.Frag → Bool) (fn : List DefD) (K : PySem.W.Frag) : Prop := obsX fa fc fn K = valD fn
def obsXG (n : Nat) (fa : List Fa) (fc : PySem.W.Frag → Bool) (fn : List DefD) (g : Addr → Option Obj) : AlD := obsX fa fc fn (frG g (asD g n))
def hookX (n : Nat) (fa : List Fa) (fc : PySem.W.Frag → Bool) (fn : List DefD) : PySem.W.Hook where
  α := AlD
  obs := fun s => obsXG n fa fc fn s.heap.get?
  val := fun _ => valD fn
  says := fun _ h => ∃ K : PySem.W.Frag, K.In h ∧ SaysX fa fc fn K
  of := fun _ _ e => ⟨_, frG_in, e⟩
  keeps := fun _ _ _ ⟨K, hK, c⟩ k => ⟨K, PySem.W.Frag.In.keeps hK k, c⟩
theorem obsXG_eq {n : Nat} {fa : List Fa} {fc : PySem.W.Frag → Bool} {fn : List DefD} {g : Addr → Option Obj} {s : Shared} (h : ∀ a, g a = s.heap.get? a) : obsXG n fa fc fn g = (hookX n fa fc fn).obs s := by
  have e : g = s.heap.get? := funext h
  rw [e] <;> rfl
section
variable {fa : List Fa} {fc : PySem.W.Frag → Bool} {fn : List DefD} {K : PySem.W.Frag}
theorem SaysX.one (c : SaysX fa fc fn K) : ((fa.all fun f => f.ok K) && (fc K && fn.all fun d => d.ok K)) = true := congrArg (fun z : AlD => z.1) c
theorem SaysX.fact (c : SaysX fa fc fn K) (i : Nat) {f : Fa} (h : fa[i]? = some f := by rfl) : f.ok K = true := List.all_eq_true.mp (ba c.one).1 f (List.mem_of_getElem? h)
theorem SaysX.own (c : SaysX fa fc fn K) : fc K = true := (ba (ba c.one).2).1
theorem SaysX.def_ (c : SaysX fa fc fn K) (i : Nat) {d : DefD} (h : fn[i]? = some d := by rfl) : ∃ fd, FunD K d.name d.qual d.params d.body d.scope (d.dvs K) (d.kws K) (fAd K d.at_) fd := by
  have c2 := (ba (ba c.one).2).2
  have e : fn.map (fun d => fnW K d.at_) = fn.map DefD.val := congrArg (fun z : AlD => z.2) c
  have e2 : (fn.map fun d => fnW K d.at_)[i]? = (fn.map DefD.val)[i]? := by rw [e]
  rw [List.getElem?_map, List.getElem?_map, h] at e2
  exact DefD.funD (Option.some.inj e2) (List.all_eq_true.mp c2 d (List.mem_of_getElem? h))
end
/-- where the classes stand -/
def clsAt (K : PySem.W.Frag) (cs : List Str) (c : Nat) : Addr := ga K (cs.getD c Str.empty)
def TxOf (K : PySem.W.Frag) (cs : List Str) : Tx := ⟨K, clsAt K cs⟩
/-- the classes as isinstance sees them -/
def isB (K : PySem.W.Frag) (cs : List Str) : Bool := kitT K (clsAt K cs) cs.length && ((List.range cs.length).all (fun c => (Fa.cls (cs.getD c Str.empty)).ok K && (eqO (PySem.W.findIn K (.ref (clsAt K cs c)) "__class__") (some (some (.builtin "object.__class__"))) && decide (PySem.W.mroIn K (clsAt K cs c) (.type "object") = some true))) &&
  (eqO (PySem.W.specialIn K (.builtin "object.__class__") "__get__") (some (some (.builtin "getset_descriptor.__get__"))) && decide (PySem.W.takesIn K (.builtin "object.__class__") = some true)))
theorem isB_ok {K : PySem.W.Frag} {cs : List Str} (h : isB K cs = true) : IsC K (clsAt K cs) cs.length := by
  obtain ⟨h1, h⟩ := ba h
  obtain ⟨h2, h⟩ := ba h
  obtain ⟨h3, h4⟩ := ba h
  have at_ : ∀ c, c < cs.length → _ := fun c hc => List.all_eq_true.mp h2 c (List.mem_range.mpr hc)
  exact ⟨fun c hc => cls_ok (ba (at_ c hc)).1, fun c hc => eqO_ok (ba (ba (at_ c hc)).2).1, fun c hc => of_decide_eq_true (ba (ba (at_ c hc)).2).2, eqO_ok h3, of_decide_eq_true h4, h1⟩
def eqB (K : PySem.W.Frag) (x : Str) : Bool := eqO (PySem.W.findIn K (.ref (ga K x)) "__eq__") (some (some (.ref (ma K (ga K x) "__eq__")))) && (PySem.W.isFn K (.ref (ma K (ga K x) "__eq__")) && (eqO (PySem.W.findIn K (.ref (ga K x)) "__ne__") (some (some (.builtin "object.__ne__"))) && decide (PySem.W.mroIn K (ga K x) (.type "object") = some true)))
theorem eqB_ok {K : PySem.W.Frag} {x : Str} (h : eqB K x = true) : EqC K (ga K x) (ma K (ga K x) "__eq__") := by
  obtain ⟨h1, h⟩ := ba h
  obtain ⟨h2, h⟩ := ba h
  obtain ⟨h3, h4⟩ := ba h
  exact ⟨eqO_ok h1, h2, eqO_ok h3, of_decide_eq_true h4⟩
end Lc
namespace Lc
open PySem L2
section
variable {T : Tx} {F : Fm} {W : WX'} {X : Cx} {a b c e : Expr} {pos p : Pos} {x : Str} {ta tb tc : EO} {f f2 : D → D → Option D}
theorem s_bin {op : Operator} (o : OpR X (binaryOp op) (rD2 T f)) (ha : SO T F W X a ta) (hb : SO T F W X b tb) : SE T F W X (.BinOp a op b pos) (eOp2 f ta tb) := s_op2 ha hb fun _ _ h1 h2 => pe_op o h1 h2
theorem s_cmp {op : CmpOp} (o : OpR X (compareOp op) (rD2 T f)) (ha : SO T F W X a ta) (hb : SO T F W X b tb) (hm : behindInMarks op b = false := by first | exact nobehind _ (by decide) (by decide) | rfl) :
    SE T F W X (.Compare a [op] [b] pos) (eOp2 f ta tb) := s_op2 ha hb fun _ _ h1 h2 => pe_cmpR o h1 h2 hm
theorem op2_den {σ : St} {H : Hp} {Q : VK} (q : den T F W (rV T) (eOp2 f ta tb) σ H Q) : tOp (rD2 T f) (den T F W (rO T) ta) (den T F W (rO T) tb) σ H Q := by
  refine den.bind q fun oa ρ1 g0 H0 g1 H1 x s1 e1 r1 p1 => ?_
  refine ⟨g1, ρ1, e1, Po.bind p1 fun ob ρ2 g2 H2 y s2 e2 r2 p2 => ?_⟩
  obtain ⟨d, hd, p3⟩ := Po.of p2
  obtain ⟨dx, q1, hd⟩ := Option.bind_eq_some_iff.mp hd
  obtain ⟨dy, q2, hd⟩ := Option.bind_eq_some_iff.mp hd
  exact ⟨g2.Z, dx, dy, d, e2.zl, (rO.step (ρ' := ρ2) r1 s2).rv e2 q1, r2.rv e2 q2, hd, fun v H' gr r => p3 v g2 H' (.gr gr e2) (e2.gr gr) r⟩
theorem bV_den {t : EE} {σ : St} {H : Hp} {Q : Bool → Hp → Prop} (q : den T F W rB (bV t) σ H Q) : den T F W (rV T) t σ H fun x H1 => ∃ c, x = .bl c ∧ Q c H1 := by
  refine den.bind q fun d ρ1 g0 H0 g1 H1 v s1 e1 r1 p1 => ?_
  cases d <;> try exact p1.elim
  rename_i k
  cases r1
  exact ⟨k, rfl, p1.ok e1 rfl⟩
theorem b_cmp {op : CmpOp} (o : OpR X (compareOp op) (rD2 T f)) (ha : SO T F W X a ta) (hb : SO T F W X b tb) (hm : behindInMarks op b = false := by first | exact nobehind _ (by decide) (by decide) | rfl) :
    ST T F W X (.Compare a [op] [b] pos) (bV (eOp2 f ta tb)) := pt_imp (pt_cmpR o ha hb hm) fun _ _ _ q => op2_den (bV_den q)
/-- a name, a call, a part: its value is the test -/
theorem b_of {t : EE} (h : SE T F W X e t) (he : ∀ whole, isTrue e X.env whole = (do let v ← whole; standAt e.pos; holding [v] (truthy v)) := by intro _; rfl) : ST T F W X e (bV t) :=
  pt_imp (pt_val h he) fun _ _ _ q => bV_den q
theorem chn_den {σ : St} {H : Hp} {Q : VK} (q : den T F W (rV T) (eChn f f2 ta tb tc) σ H Q) : tChain (rD2 T f) (rD2 T f2) (den T F W (rO T) ta) (den T F W (rO T) tb) (den T F W (rO T) tc) σ H Q := by
  refine den.bind q fun oa ρ1 g0 H0 g1 H1 v s1 e1 r1 p1 => ?_
  refine ⟨g1, ρ1, e1, Po.bind p1 fun ob ρ2 g2 H2 y s2 e2 r2 p2 => ?_⟩
  have key : ∀ {d : D} {k : Bool}, ((oa.get ρ2).bind fun x => (ob.get ρ2).bind fun y => f x y) = some d → ∀ {Q' : VK}, (∀ v H', Gr H2 H' → R T H' g2.Z v d → Q' v H') → rD2 T f v y H2 Q' := by
    intro d _ hd Q' hk
    cases q1 : oa.get ρ2 with
    | none => rw [q1] at hd; cases hd
    | some dx =>
      rw [q1] at hd
      cases q2 : ob.get ρ2 with
      | none => rw [q2] at hd; cases hd
      | some dy =>
        rw [q2] at hd
        exact ⟨g2.Z, dx, dy, d, e2.zl, (rO.step (ρ' := ρ2) r1 s2).rv e2 q1, r2.rv e2 q2, hd, hk⟩
  split at p2
  · rename_i hd
    refine key (k := true) hd fun w H3 gr r => ?_
    cases r
    refine ⟨true, rfl, ?_⟩
    have p3 := Po.step p2 (.gr gr e2)
    have e3 := e2.gr gr
    refine ⟨g2, ρ2, e3, Po.bind p3 fun oc ρ3 g4 H4 z s4 e4 r4 p4 => ?_⟩
    obtain ⟨d, hd, p5⟩ := Po.of p4
    cases q1 : ob.get ρ3 with
    | none => rw [q1] at hd; cases hd
    | some dx =>
      rw [q1] at hd
      cases q2 : oc.get ρ3 with
      | none => rw [q2] at hd; cases hd
      | some dy =>
        rw [q2] at hd
        exact ⟨g4.Z, dx, dy, d, e4.zl, (rO.step (ρ' := ρ3) (rO.step (ρ' := ρ2) r2 (.gr gr e2)) s4).rv e4 q1, r4.rv e4 q2, hd, fun v H' gr r => p5 v g4 H' (.gr gr e4) (e4.gr gr) r⟩
  · rename_i hd
    refine key (k := true) hd fun w H3 gr r => ?_
    cases r
    exact ⟨false, rfl, p2 _ g2 H3 (.gr gr e2) (e2.gr gr) (.bl false)⟩
  · exact p2.elim
theorem b_chn {op op' : CmpOp} (ho : OpR X (compareOp op) (rD2 T f)) (ho' : OpR X (compareOp op') (rD2 T f2)) (ha : SO T F W X a ta) (hb : SO T F W X b tb) (hc : SO T F W X c tc) (hm : lastMarks [op, op'] [b, c] = false := by with_unfolding_all rfl) :
    ST T F W X (.Compare a [op, op'] [b, c] pos) (bV (eChn f f2 ta tb tc)) := pt_imp (pt_chain ho ho' ha hb hc hm) fun _ _ _ q => chn_den (bV_den q)
theorem s_gI {j : Int} (hg : Gl X x) (hm : ∃ t, X.mg x = some (.int j t)) (hd : (x == ("__debug__" : Str)) = false := by decide) : SE T F W X (.Name x pos) (eC (.int j)) := by
  obtain ⟨t, hm⟩ := hm
  exact s_gloI hg hm ⟨_, rfl⟩ hd
theorem s_gS {j : Str} (hg : Gl X x) (hm : ∃ t, X.mg x = some (.str j t)) (hd : (x == ("__debug__" : Str)) = false := by decide) : SE T F W X (.Name x pos) (eC (.str j)) := by
  obtain ⟨t, hm⟩ := hm
  exact s_gloS hg hm ⟨_, rfl⟩ hd
end
def pickL {α : Type} (js : List Nat) (l : List α) : List α := js.filterMap (l[·]?)
def ordL {α : Type} (js : List Nat) (as bs : List α) : List α := pickL js (as ++ bs)
theorem pick_len {α : Type} {js : List Nat} {l : List α} (h : ∀ j ∈ js, j < l.length) : (pickL js l).length = js.length := by
  induction js with
  | nil => rfl
  | cons j js ih =>
    have hj := h j List.mem_cons_self
    unfold pickL at ih ⊢
    rw [List.filterMap_cons, List.getElem?_eq_getElem hj]
    simp only [List.length_cons]
    rw [ih fun k hk => h k (List.mem_cons_of_mem _ hk)]
theorem pick_vals {js : List Nat} {vs : List V} {us : List Value} (r : Vals vs us) : Vals (pickL js vs) (pickL js us) := by
  induction js with
  | nil => exact .nil
  | cons j js ih =>
    unfold pickL at ih ⊢
    rw [List.filterMap_cons, List.filterMap_cons]
    cases h : vs[j]? with
    | none =>
      have : us[j]? = none := by
        rw [List.getElem?_eq_none_iff] at h ⊢
        rw [← r.length]; exact h
      rw [this]; exact ih
    | some v =>
      obtain ⟨u, hu, ru⟩ := r.get h
      rw [hu]; exact .cons ru ih
theorem grel_ord {T : Tx} {js : List Nat} {n m : Nat} : GRel T (ordL js) (ordL js) n m := by
  intro g σ H as bs vs zs h1 h2 r1 r2
  have r := r1.app r2
  unfold ordL
  generalize as ++ bs = l at r
  generalize vs ++ zs = k at r
  induction js with
  | nil => exact .nil
  | cons j js ih =>
    unfold pickL at ih ⊢
    rw [List.filterMap_cons, List.filterMap_cons]
    cases h : l[j]? with
    | none =>
      have : k[j]? = none := by
        rw [List.getElem?_eq_none_iff] at h ⊢
        rw [← r.len]; exact h
      rw [this]; exact ih
    | some a =>
      obtain ⟨v, hv, rv⟩ := r.get h
      rw [hv]; exact .cons rv ih
theorem len_ord {js : List Nat} {n m k : Nat} (h : js.all (· < n + m) = true) (hk : js.length = k) : ∀ as bs : List Ar, as.length = n → bs.length = m → (ordL js as bs).length = k := by
  intro as bs h1 h2
  unfold ordL
  rw [pick_len, hk]
  intro j hj
  rw [List.length_append, h1, h2]
  exact of_decide_eq_true (List.all_eq_true.mp h j hj)
theorem kbn_ord {K : PySem.W.Frag} {x qual : Str} {params : Arguments} {body : List Stmt} {scope : Scope} {kws : List (Str × V)} {f : Addr} {fd : FuncData} {ps ks : List Str} (n : Nat) (js : List Nat) (F : FunD K x qual params body scope [] kws f fd)
    (h : ∀ (kV doc pm : Value) (an : Option Addr) (cdv ct : Value) (us ws : List Value), us.length = n → ws.length = ks.length → bindArgs (PySem.W.fnOf x qual params body scope .none kV doc pm an cdv ct) ⟨us, ks.zip ws⟩ = pure (ps.zip (ordL js us ws))) :
    KBn K fd ps n ks (ordL js) (ordL js) := by
  obtain ⟨oc, od, dV, kV, doc, pm, an, cdv, ct, osl, rfl, lk, hcd, hD, hK⟩ := F.ex
  rcases hD with ⟨_, rfl⟩ | ⟨e, _⟩
  · exact ⟨fun s us ws _ h1 h2 => .of_eq (h kV doc pm an cdv ct us ws h1 h2), fun r1 r2 => pick_vals (r1.append r2)⟩
  · exact absurd rfl e
end Lc
namespace Lc
open PySem L2
def gN (is : List Nat) : TGs := fun vs σ H Q => vs.length = is.length ∧ Q (stAll is vs σ) H
section
variable {T : Tx} {F : Fm} {W : WX'} {X : Cx} {es ns : List Expr} {is : List Nat} {i : Nat} {x : Str} {p pt pt2 pos : Pos} {kt k2 n : Nat}
theorem gn_nil : PGs X [] (gN []) := pgs_imp pgs_nil fun vs σ H Q ⟨h, q⟩ => by
  cases vs with
  | nil => exact ⟨rfl, q⟩
  | cons v r => cases h
theorem gn_cons (hN : X.N.Nodup) (hi : X.N[i]? = some x) (hx : Loc X.env.scope x) (h : PGs X es (gN is)) (hf : X.fn x = true ∨ X.env.scope.names.lookup x = some .local := by first | exact .inl rfl | exact .inr rfl | assumption)
    (hs : (assignEach (.Name x p :: es) X.env).map (·.2) = assign (.Name x p) X.env :: (assignEach es X.env).map (·.2) := by rfl) : PGs X (.Name x p :: es) (gN (i :: is)) :=
  pgs_imp (pgs_cons (pg_name hN hi hx hf) h hs) fun vs σ H Q ⟨h, q⟩ => by
    cases vs with
    | nil => cases h
    | cons v r => exact ⟨v, r, rfl, by simpa using h, q⟩
theorem RP.gr {g : Gh} {H H' : Hp} {ρ : List Sl} (gr : Gr H H') : ∀ {ss : List Sl} {vs : List V} {fps : List (List Addr)}, RP T F g H ρ ss vs fps → RP T F g H' ρ ss vs fps
  | _, _, _, .nil => .nil
  | _, _, _, .fz r t => .fz (R.step gr.step r) (RP.gr gr t)
  | _, _, _, .ow o hz hd hf t => .ow (o.step gr.step fun a ha => by
      obtain ⟨u, hu⟩ := o.some a ha
      rw [hu, gr a u hu]) hz hd hf (RP.gr gr t)
theorem RP.len {g : Gh} {H : Hp} {ρ : List Sl} {ss : List Sl} {vs : List V} {fps : List (List Addr)} (h : RP T F g H ρ ss vs fps) : ss.length = vs.length := by
  induction h with
  | nil => rfl
  | fz _ _ ih => simp [ih]
  | ow _ _ _ _ _ ih => simp [ih]
theorem setAll_len {pn : Nat → Bool} : ∀ {is : List Nat} {ss ρ ρ' : List Sl}, setAll pn is ss ρ = some ρ' → is.length = ss.length
  | [], [], _, _, _ => rfl
  | i :: is, s :: ss, ρ, ρ', h => by
    simp only [Lc.setAll] at h
    split at h
    · cases h
    · simp [setAll_len h]
  | [], _ :: _, _, _, h => by cases h
  | _ :: _, [], _, _, h => by cases h
theorem k_parT {t : EP} (hK : X.K = T.K) (hc : X.calm = true) (ha : SPr T F W X es t) (hg : PGs X ns (gN is)) (hn : (assignEach ns X.env).length = n := by rfl) (hl : is.length = n := by rfl) (hle : n ≤ 100 := by decide) (hst : (assignEach ns X.env).findIdx? (·.1) = none := by rfl)
    (hs : swapsWithSole [.Tuple ns kt pt] (.Tuple es k2 pt2) pos.line X.env = pure false := by rfl) (hw : swappedStores [.Tuple ns kt pt] (.Tuple es k2 pt2) X.env = pure none := by rfl)
    (h1 : (assignEach [.Tuple ns kt pt] X.env).map (·.2) = [assign (.Tuple ns kt pt) X.env] := by rfl) : SS T F W X (.Assign [.Tuple ns kt pt] (.Tuple es k2 pt2) pos) (sPar F.pn is t) := by
  refine ps_imp (ps_asg (pe_tup ha) (pg_tup hc hg hn hst) hs hw h1) fun En σ H q => denS.bind q fun ss ρ1 g0 H0 g1 H1 vs s1 e1 r1 p1 => ?_
  obtain ⟨fps, r1⟩ := r1
  cases hset : Lc.setAll F.pn is ss ρ1 with
  | none => simp only [hset] at p1; exact p1.elim
  | some ρ2 =>
    simp only [hset] at p1
    have hlen : vs.length = n := by rw [← r1.len, ← setAll_len hset, hl]
    refine ⟨by rw [hlen, sizeLine_eq]; omega, fun q hq => ⟨q, vs, rfl, .inl (.inl upd_same), hlen, by rw [hlen, hl], ?_⟩⟩
    have gr : Gr H1 (upd H1 q (.tup vs)) := .alloc hq
    obtain ⟨g2, s2, e2⟩ := SR.setAll (e1.gr gr) (r1.gr gr) hset
    exact p1 _ g2 _ ((Stp.gr gr e1).trans s2) e2
end
end Lc
namespace Lc
open PySem L2
section
variable {T : Tx} {F : Fm} {W : WX'} {X : Cx} {a b e : Expr} {pos p : Pos} {x : Str} {i : Nat}
theorem unr_neg : UnR X (unaryOp .USub) (rD1 T D.negD) := by
  intro pins s σ H x v Q I rx ⟨Z, dx, d, z, hx, hd, k⟩
  unfold D.negD at hd
  split at hd
  · cases hd; cases hx.int
    exact un_neg pins s σ H _ v Q I rx ⟨_, rfl, k _ _ (.refl _) (.int _)⟩
  · cases hd
theorem s_neg {t : EO} (h : SO T F W X e t) : SE T F W X (.UnaryOp .USub e pos) (eOp1 D.negD t) := s_op1 h fun _ h => pe_un unr_neg h
theorem inEq_den {c : Nat} {fn : Fn} {ng : Bool} {ta tb : EA1} {σ : St} {H : Hp} {Q : VK} (q : den T F W (rV T) (eInEq c fn ng ta tb) σ H Q) : tOp (rInEq (T.cl c) (spF T 2 fn) ng) (den T F W (r1 T) ta) (den T F W (r1 T) tb) σ H Q := by
  refine den.bind q fun oa ρ1 g0 H0 g1 H1 x s1 e1 r1 p1 => ?_
  refine ⟨g1, ρ1, e1, Po.bind p1 fun ob ρ2 g2 H2 y s2 e2 r2 p2 => ?_⟩
  split at p2
  · rename_i hi
    rw [Bool.and_eq_true] at hi
    obtain ⟨fs, h1⟩ := isInsC_of hi.1
    obtain ⟨gs, h2⟩ := isInsC_of hi.2
    have r1' : rAr T g2 σ H2 oa x := by
      cases oa with
      | v d => exact R.step s2.st r1
      | s i => exact r1
    obtain ⟨aa, dx, ws, rfl, k1, _⟩ := (Ar.rv e2 r1' h1).ins
    obtain ⟨bb, dy, us, rfl, k2, _⟩ := (Ar.rv e2 r2 h2).ins
    refine ⟨aa, dx, bb, dy, ws, us, rfl, rfl, k1, k2, ?_⟩
    refine call_sp (W := WF) (F := F) (g := g2) (ρ := ρ2) (σ := σ) e2 (as := [oa, ob]) (.cons r1' (.cons r2 .nil)) rfl ?_
    generalize callF fn [oa, ob] ρ2 = res at p2
    unfold blOf at p2
    split at p2
    · intro v g3 H3 s3 e3 r3
      cases r3
      exact ⟨_, rfl, p2 _ g3 H3 s3 e3 (.bl _)⟩
    · exact p2.elim
  · exact p2.elim
theorem b_inEq {c : Nat} {fn : Fn} {op : CmpOp} {ng : Bool} {ta tb : EA1} (o : OpR X (compareOp op) (rInEq (T.cl c) (spF T 2 fn) ng)) (ha : SA1 T F W X a ta) (hb : SA1 T F W X b tb) (hm : behindInMarks op b = false) : ST T F W X (.Compare a [op] [b] pos) (bV (eInEq c fn ng ta tb)) :=
  pt_imp (pt_cmpR o ha hb hm) fun _ _ _ q => inEq_den (bV_den q)
theorem b_omLeft {p2 p3 p4 : Pos} {k1 : Nat} (hN : X.N[i]? = some x) (hv : Vis X.env.scope x) (hu : X.A.units + 64 < cLine) (hd : (x == ("__debug__" : Str)) = false) (hcd : (x == ("__classdict__" : Str)) = false) (hK : X.K = T.K) :
    ST T F W X (.Compare (.Subscript (.Name x p) (.Constant (.str "left") k1 p2) p3) [.NotEq] [.List [] p4] pos) (bV (omAt i omLeft)) := by
  refine pt_imp (pt_cmpR (opr_ne (T := T) hK hu) (pe_omL hN hv hu hd hcd) (pe_lst pa_nil) (nobehind _ (by decide) (by decide))) fun σ H Q q => ?_
  obtain ⟨g, ρ, m, d, s, e, hd, q⟩ := omAt_den (bV_den q)
  cases hd
  obtain ⟨_, a, l, c, h1, h2, h3, h4, h5, h6, h7, h8⟩ := om_at s e
  refine ⟨a, l, c, _, h1, h3, Nat.zero_le _, fun b hb => ?_⟩
  have gr : Gr H (upd H b (.lst [])) := .alloc hb
  have s2 := s.gr gr
  refine ⟨g.Z, .lst (m.left.map D.int), .lst [], .bl (!m.left.isEmpty), s2.zl, .inr ⟨[l], .lst (gr _ _ h4) (RA.ofInts _)⟩, .inl (.lst upd_same (fun z => s.zl b z hb) .nil), ?_, fun v H' gr2 r => q v g H' (.gr (gr.trans gr2) s) (s2.gr gr2) r⟩
  unfold D.neD D.eqB
  rw [ints_py, show D.py (.lst []) = some (.list []) from rfl]
  simp only [shaped_ints, show SeqAt.shaped (.list []) = true from rfl, Bool.and_self, if_true, oB, Option.map_some]
  cases m.left <;> rfl
end
theorem kbn_ordD {K : PySem.W.Frag} {x qual : Str} {params : Arguments} {body : List Stmt} {scope : Scope} {dvs : List V} {kws : List (Str × V)} {f : Addr} {fd : FuncData} {ps ks : List Str} (n : Nat) (js : List Nat) (F : FunD K x qual params body scope dvs kws f fd) (hd : dvs ≠ [])
    (h : ∀ (T : Addr) (kV doc pm : Value) (an : Option Addr) (cdv ct : Value) (us its ws : List Value), us.length = n → its.length = dvs.length → ws.length = ks.length →
      ∃ k, bindArgs (PySem.W.fnOf x qual params body scope (.ref T) kV doc pm an cdv ct) ⟨us, ks.zip ws⟩ = seqItems? (.ref T) >>= k ∧ k (some its.toArray) = pure (ps.zip (ordL js us ws))) : KBn K fd ps n ks (ordL js) (ordL js) := by
  obtain ⟨its, b⟩ := F.kbindsD n ks (fun {α} us _ ws => ordL js us ws) hd (fun r1 _ r2 => pick_vals (r1.append r2)) h
  exact b
theorem pa0 {X : Cx} {W : WX'} : Pa CX0 X W := fun _ _ _ _ _ _ _ h => h.elim
/-- what is known of the text -/
structure Sy (fa : List He.Fa) (fc : PySem.W.Frag → Bool) (fn : List He.DefD) (K : PySem.W.Frag) (mg : Str → Option Value) : Prop where
  ex : ∃ h : Heap, K.In h ∧ h.Ns mainGlobals mg ∧ SaysX fa fc fn K
end Lc
namespace Lc
open PySem L2
theorem fs_only {T : Tx} {H : Hp} {a : Addr} {xs : List V} (hO : Only H) (h : SqL T.K H a xs) : FS T H a xs := by
  rcases h with h | h
  · rcases h with h | ⟨o, h⟩
    · rcases hO a with q | ⟨o, ys, q⟩
      · rw [q] at h; cases h
      · rw [q] at h; cases h
    · exact .inl ⟨o, h⟩
  · exact .inr (.inr h)
theorem spF_law {T : Tx} {f : Fn} {H : Hp} {a : Addr} {ns : List Int} {ρ : List Sl} (hO : Only H) (h : SqL T.K H a (ns.map V.int)) (e : f [.fz (.scr ns)] = .ok (.fz (.bl true)) ρ) :
    spF T 1 f [.ref a] H (fun v _ => v = .bl true) (fun _ _ _ => False) := by
  refine ⟨rfl, fun _ => False, ⟨fun _ => False, fun _ => []⟩, [.fz (.scr ns)], ⟨rfl, fun i d hi => ?_, fun i d hi => ?_, fun i j d e hij hi => ?_, fun a h => h, fun a h => h.elim, fun i hi => by cases hi⟩, ?_⟩
  · match i, hi with
    | 0, hi =>
      cases hi
      exact ⟨.ref a, rfl, .scr (fs_only hO h)⟩
  · match i, hi with
    | 0, hi => cases hi
  · match i, hi with
    | 0, hi => cases hi
  · rw [e]
    intro b g' H' s r q
    cases q
    rfl
end Lc
namespace Hd
open PySem PySem.Spec PyProof.Rows L2
def top (i : Nat) : Stmt := PySem.Challenge.pw_loopcuts_k71_calls_by_names.main.body.getD i (.Pass ⟨0, 0, 0, 0⟩)
def clsBody : Stmt → List Stmt
  | .ClassDef (body := b) .. => b
  | _ => []
def mth (i j : Nat) : Stmt := (clsBody (top i)).getD j (.Pass ⟨0, 0, 0, 0⟩)
def clss : List Str := ["Code", "Hitting"]
abbrev s_is_word : Stmt := top 15
def d_is_word : He.DefD := ⟨("is_word", none), "is_word", "is_word", defArgs s_is_word, defBody s_is_word, defScope s_is_word, [], []⟩
abbrev s_is_number : Stmt := top 16
def d_is_number : He.DefD := ⟨("is_number", none), "is_number", "is_number", defArgs s_is_number, defBody s_is_number, defScope s_is_number, [], []⟩
abbrev s_is_among : Stmt := top 17
def d_is_among : He.DefD := ⟨("is_among", none), "is_among", "is_among", defArgs s_is_among, defBody s_is_among, defScope s_is_among, [], []⟩
abbrev s_are_rising : Stmt := top 18
def d_are_rising : He.DefD := ⟨("are_rising", none), "are_rising", "are_rising", defArgs s_are_rising, defBody s_are_rising, defScope s_are_rising, [], []⟩
abbrev s_are_places : Stmt := top 19
def d_are_places : He.DefD := ⟨("are_places", none), "are_places", "are_places", defArgs s_are_places, defBody s_are_places, defScope s_are_places, [], []⟩
abbrev s_is_place : Stmt := top 20
def d_is_place : He.DefD := ⟨("is_place", none), "is_place", "is_place", defArgs s_is_place, defBody s_is_place, defScope s_is_place, [], []⟩
abbrev s_is_price : Stmt := top 21
def d_is_price : He.DefD := ⟨("is_price", none), "is_price", "is_price", defArgs s_is_price, defBody s_is_price, defScope s_is_price, [], []⟩
abbrev s_is_jump : Stmt := top 22
def d_is_jump : He.DefD := ⟨("is_jump", none), "is_jump", "is_jump", defArgs s_is_jump, defBody s_is_jump, defScope s_is_jump, [], []⟩
abbrev s_places_from : Stmt := top 23
def d_places_from : He.DefD := ⟨("places_from", none), "places_from", "places_from", defArgs s_places_from, defBody s_places_from, defScope s_places_from, [], []⟩
abbrev s_loops_from : Stmt := top 26
def d_loops_from : He.DefD := ⟨("loops_from", none), "loops_from", "loops_from", defArgs s_loops_from, defBody s_loops_from, defScope s_loops_from, [], []⟩
abbrev s_loops : Stmt := top 27
def d_loops : He.DefD := ⟨("loops", none), "loops", "loops", defArgs s_loops, defBody s_loops, defScope s_loops, [], []⟩
abbrev s_are_numbers : Stmt := top 28
def d_are_numbers : He.DefD := ⟨("are_numbers", none), "are_numbers", "are_numbers", defArgs s_are_numbers, defBody s_are_numbers, defScope s_are_numbers, [], []⟩
abbrev s_go_on : Stmt := top 29
def d_go_on : He.DefD := ⟨("go_on", none), "go_on", "go_on", defArgs s_go_on, defBody s_go_on, defScope s_go_on, [], []⟩
abbrev s_starts_of : Stmt := top 30
def d_starts_of : He.DefD := ⟨("starts_of", none), "starts_of", "starts_of", defArgs s_starts_of, defBody s_starts_of, defScope s_starts_of, [], []⟩
abbrev s_is_loop : Stmt := top 31
def d_is_loop : He.DefD := ⟨("is_loop", none), "is_loop", "is_loop", defArgs s_is_loop, defBody s_is_loop, defScope s_is_loop, [], []⟩
abbrev s_need_loop : Stmt := top 32
def d_need_loop : He.DefD := ⟨("need_loop", none), "need_loop", "need_loop", defArgs s_need_loop, defBody s_need_loop, defScope s_need_loop, [], []⟩
abbrev s_places_of : Stmt := top 33
def d_places_of : He.DefD := ⟨("places_of", none), "places_of", "places_of", defArgs s_places_of, defBody s_places_of, defScope s_places_of, [], []⟩
abbrev s_is_way : Stmt := top 34
def d_is_way : He.DefD := ⟨("is_way", none), "is_way", "is_way", defArgs s_is_way, defBody s_is_way, defScope s_is_way, [], []⟩
abbrev s_ways_to : Stmt := top 38
def d_ways_to : He.DefD := ⟨("ways_to", none), "ways_to", "ways_to", defArgs s_ways_to, defBody s_ways_to, defScope s_ways_to, [], []⟩
abbrev s_door_so : Stmt := top 39
def d_door_so : He.DefD := ⟨("door_so", none), "door_so", "door_so", defArgs s_door_so, defBody s_door_so, defScope s_door_so, [], []⟩
abbrev s_door_of : Stmt := top 40
def d_door_of : He.DefD := ⟨("door_of", none), "door_of", "door_of", defArgs s_door_of, defBody s_door_of, defScope s_door_of, [], []⟩
abbrev s_one_door : Stmt := top 41
def d_one_door : He.DefD := ⟨("one_door", none), "one_door", "one_door", defArgs s_one_door, defBody s_one_door, defScope s_one_door, [], []⟩
abbrev s_lumps_ahead : Stmt := top 42
def d_lumps_ahead : He.DefD := ⟨("lumps_ahead", none), "lumps_ahead", "lumps_ahead", defArgs s_lumps_ahead, defBody s_lumps_ahead, defScope s_lumps_ahead, [], []⟩
abbrev s_put_into : Stmt := top 43
def d_put_into : He.DefD := ⟨("put_into", none), "put_into", "put_into", defArgs s_put_into, defBody s_put_into, defScope s_put_into, [], []⟩
abbrev s_foldings_of : Stmt := top 44
def d_foldings_of : He.DefD := ⟨("foldings_of", none), "foldings_of", "foldings_of", defArgs s_foldings_of, defBody s_foldings_of, defScope s_foldings_of, [], []⟩
abbrev s_doors_paper : Stmt := top 45
def d_doors_paper : He.DefD := ⟨("doors_paper", none), "doors_paper", "doors_paper", defArgs s_doors_paper, defBody s_doors_paper, defScope s_doors_paper, [], []⟩
abbrev s_need_one_door : Stmt := top 46
def d_need_one_door : He.DefD := ⟨("need_one_door", none), "need_one_door", "need_one_door", defArgs s_need_one_door, defBody s_need_one_door, defScope s_need_one_door, [], []⟩
abbrev s_check_foldings : Stmt := top 47
def d_check_foldings : He.DefD := ⟨("check_foldings", none), "check_foldings", "check_foldings", defArgs s_check_foldings, defBody s_check_foldings, defScope s_check_foldings, [], []⟩
abbrev s_end_on : Stmt := top 48
def d_end_on : He.DefD := ⟨("end_on", none), "end_on", "end_on", defArgs s_end_on, defBody s_end_on, defScope s_end_on, [], []⟩
abbrev s_check_doors : Stmt := top 49
def d_check_doors : He.DefD := ⟨("check_doors", none), "check_doors", "check_doors", defArgs s_check_doors, defBody s_check_doors, defScope s_check_doors, [], []⟩
abbrev s_hits : Stmt := top 52
def d_hits : He.DefD := ⟨("hits", none), "hits", "hits", defArgs s_hits, defBody s_hits, defScope s_hits, [], []⟩
abbrev s_times_of : Stmt := top 53
def d_times_of : He.DefD := ⟨("times_of", none), "times_of", "times_of", defArgs s_times_of, defBody s_times_of, defScope s_times_of, [], []⟩
abbrev s_packed : Stmt := top 54
def d_packed : He.DefD := ⟨("packed", none), "packed", "packed", defArgs s_packed, defBody s_packed, defScope s_packed, [], []⟩
abbrev s_is_lot : Stmt := top 55
def d_is_lot : He.DefD := ⟨("is_lot", none), "is_lot", "is_lot", defArgs s_is_lot, defBody s_is_lot, defScope s_is_lot, [], []⟩
abbrev s_need_lot : Stmt := top 56
def d_need_lot : He.DefD := ⟨("need_lot", none), "need_lot", "need_lot", defArgs s_need_lot, defBody s_need_lot, defScope s_need_lot, [], []⟩
abbrev s_meets_all : Stmt := top 57
def d_meets_all : He.DefD := ⟨("meets_all", none), "meets_all", "meets_all", defArgs s_meets_all, defBody s_meets_all, defScope s_meets_all, [], []⟩
abbrev s_is_cut : Stmt := top 58
def d_is_cut : He.DefD := ⟨("is_cut", none), "is_cut", "is_cut", defArgs s_is_cut, defBody s_is_cut, defScope s_is_cut, [], []⟩
abbrev s_cost_of : Stmt := top 59
def d_cost_of : He.DefD := ⟨("cost_of", none), "cost_of", "cost_of", defArgs s_cost_of, defBody s_cost_of, defScope s_cost_of, [], []⟩
abbrev s_cost : Stmt := top 60
def d_cost : He.DefD := ⟨("cost", none), "cost", "cost", defArgs s_cost, defBody s_cost, defScope s_cost, [], []⟩
abbrev s_price_of : Stmt := top 61
def d_price_of : He.DefD := ⟨("price_of", none), "price_of", "price_of", defArgs s_price_of, defBody s_price_of, defScope s_price_of, [], []⟩
abbrev s_least_cost : Stmt := top 62
def d_least_cost : He.DefD := ⟨("least_cost", none), "least_cost", "least_cost", defArgs s_least_cost, defBody s_least_cost, defScope s_least_cost, [], []⟩
abbrev s_least_cut : Stmt := top 63
def d_least_cut : He.DefD := ⟨("least_cut", none), "least_cut", "least_cut", defArgs s_least_cut, defBody s_least_cut, defScope s_least_cut, [], []⟩
abbrev s_least_within : Stmt := top 64
def d_least_within : He.DefD := ⟨("least_within", none), "least_within", "least_within", defArgs s_least_within, defBody s_least_within, defScope s_least_within, [], []⟩
abbrev s_are_packed : Stmt := top 65
def d_are_packed : He.DefD := ⟨("are_packed", none), "are_packed", "are_packed", defArgs s_are_packed, defBody s_are_packed, defScope s_are_packed, [], []⟩
abbrev s_is_pack : Stmt := top 66
def d_is_pack : He.DefD := ⟨("is_pack", none), "is_pack", "is_pack", defArgs s_is_pack, defBody s_is_pack, defScope s_is_pack, [], []⟩
abbrev s_paper : Stmt := top 67
def d_paper : He.DefD := ⟨("paper", none), "paper", "paper", defArgs s_paper, defBody s_paper, defScope s_paper, [], []⟩
abbrev s_check : Stmt := top 68
def d_check : He.DefD := ⟨("check", none), "check", "check", defArgs s_check, defBody s_check, defScope s_check, [], []⟩
abbrev s__law_begun : Stmt := top 70
def d__law_begun : He.DefD := ⟨("_law_begun", none), "_law_begun", "_law_begun", defArgs s__law_begun, defBody s__law_begun, defScope s__law_begun, [], []⟩
abbrev s__law_next : Stmt := top 71
def d__law_next : He.DefD := ⟨("_law_next", none), "_law_next", "_law_next", defArgs s__law_next, defBody s__law_next, defScope s__law_next, [], []⟩
abbrev s__law_names : Stmt := top 72
def d__law_names : He.DefD := ⟨("_law_names", none), "_law_names", "_law_names", defArgs s__law_names, defBody s__law_names, defScope s__law_names, [], []⟩
abbrev s__law_first_right : Stmt := top 73
def d__law_first_right : He.DefD := ⟨("_law_first_right", none), "_law_first_right", "_law_first_right", defArgs s__law_first_right, defBody s__law_first_right, defScope s__law_first_right, [], []⟩
abbrev s__law_second_right : Stmt := top 74
def d__law_second_right : He.DefD := ⟨("_law_second_right", none), "_law_second_right", "_law_second_right", defArgs s__law_second_right, defBody s__law_second_right, defScope s__law_second_right, [], []⟩
abbrev s_law : Stmt := top 75
def d_law : He.DefD := ⟨("law", none), "law", "law", defArgs s_law, defBody s_law, defScope s_law, [], []⟩
abbrev s_Code___init__ : Stmt := mth 24 0
def d_Code___init__ : He.DefD := ⟨("Code", some "__init__"), "__init__", "Code.__init__", defArgs s_Code___init__, defBody s_Code___init__, defScope s_Code___init__, [.adr (He.dflAt ("Code", some "__init__") 0)], []⟩
abbrev s_Code___len__ : Stmt := mth 24 1
def d_Code___len__ : He.DefD := ⟨("Code", some "__len__"), "__len__", "Code.__len__", defArgs s_Code___len__, defBody s_Code___len__, defScope s_Code___len__, [], []⟩
abbrev s_Code___eq__ : Stmt := mth 24 2
def d_Code___eq__ : He.DefD := ⟨("Code", some "__eq__"), "__eq__", "Code.__eq__", defArgs s_Code___eq__, defBody s_Code___eq__, defScope s_Code___eq__, [], []⟩
abbrev s_Code_with_jump : Stmt := mth 24 3
def d_Code_with_jump : He.DefD := ⟨("Code", some "with_jump"), "with_jump", "Code.with_jump", defArgs s_Code_with_jump, defBody s_Code_with_jump, defScope s_Code_with_jump, [], []⟩
abbrev s_Code_need_jump : Stmt := mth 24 4
def d_Code_need_jump : He.DefD := ⟨("Code", some "need_jump"), "need_jump", "Code.need_jump", defArgs s_Code_need_jump, defBody s_Code_need_jump, defScope s_Code_need_jump, [], []⟩
abbrev s_Code_without_jump : Stmt := mth 24 5
def d_Code_without_jump : He.DefD := ⟨("Code", some "without_jump"), "without_jump", "Code.without_jump", defArgs s_Code_without_jump, defBody s_Code_without_jump, defScope s_Code_without_jump, [], []⟩
abbrev s_Code_priced : Stmt := mth 24 6
def d_Code_priced : He.DefD := ⟨("Code", some "priced"), "priced", "Code.priced", defArgs s_Code_priced, defBody s_Code_priced, defScope s_Code_priced, [], []⟩
abbrev s_Code_prices : Stmt := mth 24 7
def d_Code_prices : He.DefD := ⟨("Code", some "prices"), "prices", "Code.prices", defArgs s_Code_prices, defBody s_Code_prices, defScope s_Code_prices, [], []⟩
abbrev s_Hitting___init__ : Stmt := mth 51 0
def d_Hitting___init__ : He.DefD := ⟨("Hitting", some "__init__"), "__init__", "Hitting.__init__", defArgs s_Hitting___init__, defBody s_Hitting___init__, defScope s_Hitting___init__, [], []⟩
abbrev s_Hitting_look : Stmt := mth 51 1
def d_Hitting_look : He.DefD := ⟨("Hitting", some "look"), "look", "Hitting.look", defArgs s_Hitting_look, defBody s_Hitting_look, defScope s_Hitting_look, [], []⟩
def fn : List He.DefD := [d_is_word, d_is_number, d_is_among, d_are_rising, d_are_places, d_is_place, d_is_price, d_is_jump, d_places_from, d_loops_from, d_loops, d_are_numbers, d_go_on, d_starts_of, d_is_loop, d_need_loop, d_places_of, d_is_way, d_ways_to, d_door_so, d_door_of, d_one_door, d_lumps_ahead, d_put_into, d_foldings_of, d_doors_paper, d_need_one_door, d_check_foldings, d_end_on, d_check_doors, d_hits, d_times_of, d_packed, d_is_lot, d_need_lot, d_meets_all, d_is_cut, d_cost_of, d_cost, d_price_of, d_least_cost, d_least_cut, d_least_within, d_are_packed, d_is_pack, d_paper, d_check, d__law_begun, d__law_next, d__law_names, d__law_first_right, d__law_second_right, d_law, d_Code___init__, d_Code___len__, d_Code___eq__, d_Code_with_jump, d_Code_need_jump, d_Code_without_jump, d_Code_priced, d_Code_prices, d_Hitting___init__, d_Hitting_look]
def fa : List He.Fa := [.glo "is_word", .glo "is_number", .glo "is_among", .glo "are_rising", .glo "are_places", .glo "is_place", .glo "is_price", .glo "is_jump", .glo "places_from", .glo "loops_from", .glo "loops", .glo "are_numbers", .glo "go_on", .glo "starts_of", .glo "is_loop", .glo "need_loop", .glo "places_of", .glo "is_way", .glo "ways_to", .glo "door_so", .glo "door_of", .glo "one_door", .glo "lumps_ahead", .glo "put_into", .glo "foldings_of", .glo "doors_paper", .glo "need_one_door", .glo "check_foldings", .glo "end_on", .glo "check_doors", .glo "hits", .glo "times_of", .glo "packed", .glo "is_lot", .glo "need_lot", .glo "meets_all", .glo "is_cut", .glo "cost_of", .glo "cost", .glo "price_of", .glo "least_cost", .glo "least_cut", .glo "least_within", .glo "are_packed", .glo "is_pack", .glo "paper", .glo "check", .glo "_law_begun", .glo "_law_next", .glo "_law_names", .glo "_law_first_right", .glo "_law_second_right", .glo "law", .glo "Code", .cls "Code", .mkr "Code", .glo "Hitting", .cls "Hitting", .mkr "Hitting", .meth "Code" "with_jump", .meth "Code" "need_jump", .meth "Code" "without_jump", .meth "Code" "priced", .meth "Code" "prices", .meth "Hitting" "look", .noat "Code" "places", .noat "Code" "door", .noat "Code" "jumps", .noat "Hitting" "own_sets", .noat "Hitting" "own_price", .noat "Hitting" "best", .int "MOST_PLACES" 7, .int "MOST_JUMPS" 12, .int "MOST_PRICE" 20, .int "MOST_LETTERS" 8, .str "LETTERS" "abcdefghijklmnopqrstuvwxyz", .str "ONE" "one", .str "SEVERAL" "several", .free "len", .free "all", .free "any", .free "sorted", .free "set", .free "list", .free "tuple", .free "dict", .free "min", .free "sum", .free "int", .free "range", .free "enumerate", .free "zip", .free "isinstance", .free "str", .free "bool", .free "super"]
def fc (K : PySem.W.Frag) : Bool := Lc.isB K clss && Lc.eqB K "Code"
def loose0 : List PySem.Str := ["__name__", "LoopError", "BadCode", "BadLot", "BadLoop", "BadNumber", "BadPaper", "SeveralDoors", "NoCut", "MOST_PLACES", "MOST_JUMPS", "MOST_PRICE", "MOST_LETTERS", "LETTERS", "is_word", "is_number", "is_among", "are_rising", "are_places", "is_place"]
def loose1 : List PySem.Str := ["is_price", "is_jump", "places_from", "Code", "loops_from", "loops", "are_numbers", "go_on", "starts_of", "is_loop", "need_loop", "places_of", "is_way", "ONE", "SEVERAL", "ways_to", "door_so", "door_of", "one_door", "lumps_ahead"]
def loose2 : List PySem.Str := ["put_into", "foldings_of", "doors_paper", "need_one_door", "check_foldings", "end_on", "check_doors", "Hitting", "hits", "times_of", "packed", "is_lot", "need_lot", "meets_all", "is_cut", "cost_of", "cost", "price_of", "least_cost", "least_cut"]
def loose3 : List PySem.Str := ["least_within", "are_packed", "is_pack", "paper", "check", "_law_begun", "_law_next", "_law_names", "_law_first_right", "_law_second_right"]
def loose : List PySem.Str := loose0 ++ loose1 ++ loose2 ++ loose3
abbrev Rr : PySem.W.OpenRow := PySem.W.OpenLaw.row PySem.Challenge.rw_loopcuts_k71_calls_by_names
abbrev hk : PySem.W.Hook := Lc.hookX 4 fa fc fn
def ob (s : PySem.W.SharedT) : He.AlD := Lc.obsXG 4 fa fc fn (HandSHeadRun.getT s)
theorem ob_eq (s : PySem.W.SharedT) : ob s = hk.obs s.abs := Lc.obsXG_eq (HandSHeadRun.getT_eq s)
theorem run (w : World) : HandSHeadRun.RunEq Rr (PySem.W.view Rr.prog [75]) hk ob 6000 loose w := by
  intro os
  kernel_rfl
end Hd
namespace Wk
open PySem L2 Lc
section
def pn_are_rising : Nat → Bool := fun j => decide (j < 1) && (fun j => false) j
def b_are_rising : ES :=
  sSeq (sRet (eOp1 D.allD (oV (D.noOm (eLc [1, 2] (eiZip (eVar 0) (eSl (oVar 0) (lSo (eC (.int 1))) lNo)) (gTupT [gSet 1, gSet 2]) (bYes) (eOp2 D.ltD (oVar 1) (oVar 2)))))))
  (sNil)
def f_are_rising : Fn := fnE (fun j => false) 1 2 b_are_rising
def pn_is_word : Nat → Bool := fun j => decide (j < 1) && (fun j => false) j
def b_is_word : ES :=
  sSeq (sRet (eAnd (eIsi 2 [.str] (oVar 0)) (eAnd (eChn D.leD D.leD (oV (eC (.int 1))) (oV (eOp1 D.lenD (oVar 0))) (oV (eC (.int 8)))) (eOp1 D.allD (oV (D.noOm (eLc [1] (eiSeq (eVar 0)) (gSet 1) (bYes) (eOp2 D.inD (oVar 1) (oV (eC (.str "abcdefghijklmnopqrstuvwxyz")))))))))))
  (sNil)
def f_is_word : Fn := fnE (fun j => false) 1 1 b_is_word
def pn_are_places : Nat → Bool := fun j => decide (j < 1) && (fun j => false) j
def b_are_places : ES :=
  sSeq (sIf (bOr (bNot (bV (eIsi 2 [.tup] (oVar 0)))) (bNot (bV (eChn D.leD D.leD (oV (eC (.int 1))) (oV (eOp1 D.lenD (oVar 0))) (oV (eC (.int 7))))))) (sSeq (sRet (eC (.bl false))) (sNil)) (sNil))
  (sSeq (sRet (eAnd (eOp1 D.allD (oV (D.noOm (eLc [1] (eiSeq (eVar 0)) (gSet 1) (bYes) (eFz (eCl f_is_word 1 0 (ordL [0]) (rCons (eVar 1) (rNil)) (rNil))))))) (eFz (eCl f_are_rising 1 0 (ordL [0]) (rCons (eVar 0) (rNil)) (rNil)))))
  (sNil))
def f_are_places : Fn := fnE (fun j => false) 1 1 b_are_places
def pn_is_place : Nat → Bool := fun j => decide (j < 2) && (fun j => false) j
def b_is_place : ES :=
  sSeq (sRet (eAnd (eIsi 2 [.str] (oVar 1)) (eOp2 D.inD (oVar 1) (oVar 0))))
  (sNil)
def f_is_place : Fn := fnE (fun j => false) 2 0 b_is_place
def pn_is_number : Nat → Bool := fun j => decide (j < 1) && (fun j => false) j
def b_is_number : ES :=
  sSeq (sRet (eAnd (eIsi 2 [.int] (oVar 0)) (eNot (eIsi 2 [.bl] (oVar 0)))))
  (sNil)
def f_is_number : Fn := fnE (fun j => false) 1 0 b_is_number
def pn_is_among : Nat → Bool := fun j => decide (j < 3) && (fun j => false) j
def b_is_among : ES :=
  sSeq (sRet (eAnd (eFz (eCl f_is_number 1 0 (ordL [0]) (rCons (eVar 0) (rNil)) (rNil))) (eChn D.leD D.leD (oVar 1) (oVar 0) (oVar 2))))
  (sNil)
def f_is_among : Fn := fnE (fun j => false) 3 0 b_is_among
def pn_is_price : Nat → Bool := fun j => decide (j < 1) && (fun j => false) j
def b_is_price : ES :=
  sSeq (sRet (eFz (eCl f_is_among 3 0 (ordL [0, 1, 2]) (rCons (eVar 0) (rCons (eC (.int 0)) (rCons (eC (.int 20)) (rNil)))) (rNil))))
  (sNil)
def f_is_price : Fn := fnE (fun j => false) 1 0 b_is_price
def pn_is_jump : Nat → Bool := fun j => decide (j < 2) && (fun j => false) j
def b_is_jump : ES :=
  sSeq (sIf (bOr (bNot (bV (eIsi 2 [.tup] (oVar 1)))) (bV (eOp2 D.neD (oV (eOp1 D.lenD (oVar 1))) (oV (eC (.int 3)))))) (sSeq (sRet (eC (.bl false))) (sNil)) (sNil))
  (sSeq (sRet (eAnd (eFz (eCl f_is_place 2 0 (ordL [0, 1]) (rCons (eVar 0) (rCons (eOp2 D.ixD (oVar 1) (oV (eC (.int 0)))) (rNil))) (rNil))) (eAnd (eFz (eCl f_is_place 2 0 (ordL [0, 1]) (rCons (eVar 0) (rCons (eOp2 D.ixD (oVar 1) (oV (eC (.int 1)))) (rNil))) (rNil))) (eFz (eCl f_is_price 1 0 (ordL [0]) (rCons (eOp2 D.ixD (oVar 1) (oV (eC (.int 2)))) (rNil)) (rNil))))))
  (sNil))
def f_is_jump : Fn := fnE (fun j => false) 2 0 b_is_jump
def pn_places_from : Nat → Bool := fun j => decide (j < 3) && (fun j => false) j
def b_places_from : ES :=
  sSeq (sPar (pn_places_from) [3, 4] (pVal (D.noOm (eLst (aNil))) (pVal (D.noOm (eLst (aCons (eVar 0) (aNil)))) (pNil))))
  (sSeq (sWh (bV (eOp2 D.gtD (oV (eOp1 D.lenD (oVar 4))) (oV (eOp1 D.lenD (oVar 3))))) (sSeq (sSet (pn_places_from) 3 (eVar 4)) (sSeq (sSet (pn_places_from) 4 (eOp1 D.srtSet (oV (eOp2 D.addD (oVar 3) (oV (D.noOm (eLc [5] (eiSeq (eVar 1)) (gSet 5) (bAnd (bV (eOp2 D.inD (oV (eOp2 D.ixD (oVar 5) (oV (eC (.int 0))))) (oVar 3))) (bV (eOp2 D.ninD (oV (eOp2 D.ixD (oVar 5) (oV (eC (.int 0))))) (oVar 2)))) (eOp2 D.ixD (oVar 5) (oV (eC (.int 1))))))))))) (sNil))) 64)
  (sSeq (sRet (eVar 3))
  (sNil)))
def f_places_from : Fn := fnE (fun j => false) 3 3 b_places_from
def pn_Code___init__ : Nat → Bool := fun j => decide (j < 4) && (fun j => j == 0) j
def b_Code___init__ : ES :=
  sSeq (sIf (bNot (bV (eFz (eCl f_are_places 1 0 (ordL [0]) (rCons (eVar 1) (rNil)) (rNil))))) (sNo) (sNil))
  (sSeq (sIf (bNot (bV (eFz (eCl f_is_place 2 0 (ordL [0, 1]) (rCons (eVar 1) (rCons (eVar 2) (rNil))) (rNil))))) (sNo) (sNil))
  (sSeq (sIf (bOr (bNot (bV (eIsi 2 [.lst, .tup] (oVar 3)))) (bV (eOp2 D.gtD (oV (eOp1 D.lenD (oVar 3))) (oV (eC (.int 12)))))) (sNo) (sNil))
  (sSeq (sForI (eiEn (eVar 3)) (gTupT [gSet 4, gSet 5]) (sSeq (sIf (bNot (bV (eFz (eCl f_is_jump 2 0 (ordL [0, 1]) (rCons (eVar 1) (rCons (eVar 5) (rNil))) (rNil))))) (sNo) (sNil)) (sNil)))
  (sSeq (sIf (bV (eOp2 D.ltD (oV (eOp1 D.lenD (oV (eFz (eCl f_places_from 3 0 (ordL [0, 1, 2]) (rCons (eVar 2) (rCons (eVar 3) (rCons (eTup (aNil)) (rNil)))) (rNil)))))) (oV (eOp1 D.lenD (oVar 1))))) (sNo) (sNil))
  (sSeq (sFldS 0 0 "places" (eVar 1))
  (sSeq (sFldS 0 0 "door" (eVar 2))
  (sSeq (sFldS 0 0 "jumps" (eOp1 D.tupleD (oVar 3)))
  (sNil))))))))
def f_Code___init__ : Fn := fnE (fun j => j == 0) 4 2 b_Code___init__
def pn__law_begun : Nat → Bool := fun j => decide (j < 1) && (fun j => false) j
def b__law_begun : ES :=
  sSeq (sRetF (eOmNew (eOp1 listD (oVar 0)) (eLc [1] (eiSeq (eVar 0)) (gSet 1) (bV (eOp2 D.geD (oVar 1) (oV (eOp2 D.powD (oV (eC (.int 10))) (oV (eC (.int 18))))))) (eVar 1)) 0))
  (sNil)
def f__law_begun : Fn := fnE (fun j => false) 1 1 b__law_begun
def pn_Code___eq__ : Nat → Bool := fun j => decide (j < 2) && (fun j => false) j
def b_Code___eq__ : ES :=
  sSeq (sIf (bNot (bV (eIsi 2 [.ins 0] (oVar 1)))) (sSeq (sRet (eC (.bl false))) (sNil)) (sNil))
  (sSeq (sRet (eOp2 D.eqD (oV (eTup (aCons (eFldC 0 "places" (oVar 0)) (aCons (eFldC 0 "door" (oVar 0)) (aCons (eFldC 0 "jumps" (oVar 0)) (aNil)))))) (oV (eTup (aCons (eFldC 0 "places" (oVar 1)) (aCons (eFldC 0 "door" (oVar 1)) (aCons (eFldC 0 "jumps" (oVar 1)) (aNil))))))))
  (sNil))
def f_Code___eq__ : Fn := fnE (fun j => false) 2 0 b_Code___eq__
def pn_Code_need_jump : Nat → Bool := fun j => decide (j < 2) && (fun j => false) j
def b_Code_need_jump : ES :=
  sSeq (sIf (bNot (bV (eFz (eCl f_is_among 3 0 (ordL [0, 1, 2]) (rCons (eVar 1) (rCons (eC (.int 0)) (rCons (eOp2 D.subD (oV (eOp1 D.lenD (oV (eFldC 0 "jumps" (oVar 0))))) (oV (eC (.int 1)))) (rNil)))) (rNil))))) (sNo) (sNil))
  (sNil)
def f_Code_need_jump : Fn := fnE (fun j => false) 2 0 b_Code_need_jump
def pn_Code_priced : Nat → Bool := fun j => decide (j < 3) && (fun j => false) j
def b_Code_priced : ES :=
  sSeq (sEx (eFz (eMt 0 "need_jump" f_Code_need_jump 1 0 (ordL [0, 1]) (a1V (eVar 0)) (rCons (eVar 1) (rNil)) (rNil))))
  (sSeq (sIf (bNot (bV (eFz (eCl f_is_price 1 0 (ordL [0]) (rCons (eVar 2) (rNil)) (rNil))))) (sNo) (sNil))
  (sSeq (sSet (pn_Code_priced) 3 (eTup (aStar (oV (eSl (oV (eOp2 D.ixD (oV (eFldC 0 "jumps" (oVar 0))) (oVar 1))) lNo (lSo (eC (.int 2))))) (aCons (eVar 2) (aNil)))))
  (sSeq (sRet (D.noOm (eMk 0 f_Code___init__ 3 0 (ordL [0, 1, 2, 3]) (rCons (eFldC 0 "places" (oVar 0)) (rCons (eFldC 0 "door" (oVar 0)) (rCons (eTup (aStar (oV (eSl (oV (eFldC 0 "jumps" (oVar 0))) lNo (lSo (eVar 1)))) (aCons (eVar 3) (aStar (oV (eSl (oV (eFldC 0 "jumps" (oVar 0))) (lSo (eOp2 D.addD (oVar 1) (oV (eC (.int 1))))) lNo)) (aNil))))) (rNil)))) (rNil))))
  (sNil))))
def f_Code_priced : Fn := fnE (fun j => false) 3 1 b_Code_priced
def pn_Code_with_jump : Nat → Bool := fun j => decide (j < 2) && (fun j => false) j
def b_Code_with_jump : ES :=
  sSeq (sIf (bNot (bV (eFz (eCl f_is_jump 2 0 (ordL [0, 1]) (rCons (eFldC 0 "places" (oVar 0)) (rCons (eVar 1) (rNil))) (rNil))))) (sNo) (sNil))
  (sSeq (sIf (bV (eOp2 D.eqD (oV (eOp1 D.lenD (oV (eFldC 0 "jumps" (oVar 0))))) (oV (eC (.int 12))))) (sNo) (sNil))
  (sSeq (sRet (D.noOm (eMk 0 f_Code___init__ 3 0 (ordL [0, 1, 2, 3]) (rCons (eFldC 0 "places" (oVar 0)) (rCons (eFldC 0 "door" (oVar 0)) (rCons (eTup (aStar (oV (eFldC 0 "jumps" (oVar 0))) (aCons (eVar 1) (aNil)))) (rNil)))) (rNil))))
  (sNil)))
def f_Code_with_jump : Fn := fnE (fun j => false) 2 0 b_Code_with_jump
def pn_Code_without_jump : Nat → Bool := fun j => decide (j < 2) && (fun j => false) j
def b_Code_without_jump : ES :=
  sSeq (sEx (eFz (eMt 0 "need_jump" f_Code_need_jump 1 0 (ordL [0, 1]) (a1V (eVar 0)) (rCons (eVar 1) (rNil)) (rNil))))
  (sSeq (sRet (D.noOm (eMk 0 f_Code___init__ 3 0 (ordL [0, 1, 2, 3]) (rCons (eFldC 0 "places" (oVar 0)) (rCons (eFldC 0 "door" (oVar 0)) (rCons (eOp2 D.addD (oV (eSl (oV (eFldC 0 "jumps" (oVar 0))) lNo (lSo (eVar 1)))) (oV (eSl (oV (eFldC 0 "jumps" (oVar 0))) (lSo (eOp2 D.addD (oVar 1) (oV (eC (.int 1))))) lNo))) (rNil)))) (rNil))))
  (sNil))
def f_Code_without_jump : Fn := fnE (fun j => false) 2 0 b_Code_without_jump
def pn_are_numbers : Nat → Bool := fun j => decide (j < 2) && (fun j => false) j
def b_are_numbers : ES :=
  sSeq (sRet (eAnd (eIsi 2 [.tup] (oVar 1)) (eOp1 D.allD (oV (D.noOm (eLc [2] (eiSeq (eVar 1)) (gSet 2) (bYes) (eFz (eCl f_is_among 3 0 (ordL [0, 1, 2]) (rCons (eVar 2) (rCons (eC (.int 0)) (rCons (eOp2 D.subD (oV (eOp1 D.lenD (oV (eFldC 0 "jumps" (oVar 0))))) (oV (eC (.int 1)))) (rNil)))) (rNil)))))))))
  (sNil)
def f_are_numbers : Fn := fnE (fun j => false) 2 1 b_are_numbers
def pn_go_on : Nat → Bool := fun j => decide (j < 2) && (fun j => false) j
def b_go_on : ES :=
  sSeq (sRet (eOp1 D.allD (oV (D.noOm (eLc [2, 3] (eiZip (eVar 1) (eSl (oVar 1) (lSo (eC (.int 1))) lNo)) (gTupT [gSet 2, gSet 3]) (bYes) (eOp2 D.eqD (oV (eOp2 D.ixD (oV (eOp2 D.ixD (oV (eFldC 0 "jumps" (oVar 0))) (oVar 2))) (oV (eC (.int 1))))) (oV (eOp2 D.ixD (oV (eOp2 D.ixD (oV (eFldC 0 "jumps" (oVar 0))) (oVar 3))) (oV (eC (.int 0)))))))))))
  (sNil)
def f_go_on : Fn := fnE (fun j => false) 2 2 b_go_on
def pn_starts_of : Nat → Bool := fun j => decide (j < 2) && (fun j => false) j
def b_starts_of : ES :=
  sSeq (sRet (D.noOm (eLc [2] (eiSeq (eVar 1)) (gSet 2) (bYes) (eOp2 D.ixD (oV (eOp2 D.ixD (oV (eFldC 0 "jumps" (oVar 0))) (oVar 2))) (oV (eC (.int 0)))))))
  (sNil)
def f_starts_of : Fn := fnE (fun j => false) 2 1 b_starts_of
def pn_is_loop : Nat → Bool := fun j => decide (j < 2) && (fun j => false) j
def b_is_loop : ES :=
  sSeq (sIf (bOr (bNot (bV (eFz (eCl f_are_numbers 2 0 (ordL [0, 1]) (rCons (eVar 0) (rCons (eVar 1) (rNil))) (rNil))))) (bOr (bV (eOp2 D.eqD (oVar 1) (oV (eTup (aNil))))) (bV (eOp2 D.neD (oV (eOp2 D.ixD (oVar 1) (oV (eC (.int 0))))) (oV (eOp1 minF (oVar 1))))))) (sSeq (sRet (eC (.bl false))) (sNil)) (sNil))
  (sSeq (sSet (pn_is_loop) 2 (eFz (eCl f_starts_of 2 0 (ordL [0, 1]) (rCons (eVar 0) (rCons (eVar 1) (rNil))) (rNil))))
  (sSeq (sRet (eAnd (eFz (eCl f_go_on 2 0 (ordL [0, 1]) (rCons (eVar 0) (rCons (eVar 1) (rNil))) (rNil))) (eAnd (eOp2 D.eqD (oV (eOp2 D.ixD (oV (eOp2 D.ixD (oV (eFldC 0 "jumps" (oVar 0))) (oV (eOp2 D.ixD (oVar 1) (oV (eOp1 D.negD (oV (eC (.int 1))))))))) (oV (eC (.int 1))))) (oV (eOp2 D.ixD (oVar 2) (oV (eC (.int 0)))))) (eOp2 D.eqD (oV (eOp1 D.lenSet (oVar 2))) (oV (eOp1 D.lenD (oVar 2)))))))
  (sNil)))
def f_is_loop : Fn := fnE (fun j => false) 2 1 b_is_loop
def pn_is_way : Nat → Bool := fun j => decide (j < 4) && (fun j => false) j
def b_is_way : ES :=
  sSeq (sIf (bNot (bV (eFz (eCl f_are_numbers 2 0 (ordL [0, 1]) (rCons (eVar 0) (rCons (eVar 3) (rNil))) (rNil))))) (sSeq (sRet (eC (.bl false))) (sNil)) (sNil))
  (sSeq (sIf (bV (eOp2 D.eqD (oVar 3) (oV (eTup (aNil))))) (sSeq (sRet (eOp2 D.eqD (oVar 1) (oVar 2))) (sNil)) (sNil))
  (sSeq (sSet (pn_is_way) 4 (D.noOm (eLst (aStar (oV (eFz (eCl f_starts_of 2 0 (ordL [0, 1]) (rCons (eVar 0) (rCons (eVar 3) (rNil))) (rNil)))) (aCons (eOp2 D.ixD (oV (eOp2 D.ixD (oV (eFldC 0 "jumps" (oVar 0))) (oV (eOp2 D.ixD (oVar 3) (oV (eOp1 D.negD (oV (eC (.int 1))))))))) (oV (eC (.int 1)))) (aNil))))))
  (sSeq (sRet (eAnd (eFz (eCl f_go_on 2 0 (ordL [0, 1]) (rCons (eVar 0) (rCons (eVar 3) (rNil))) (rNil))) (eAnd (eOp2 D.eqD (oV (eTup (aCons (eOp2 D.ixD (oVar 4) (oV (eC (.int 0)))) (aCons (eOp2 D.ixD (oVar 4) (oV (eOp1 D.negD (oV (eC (.int 1)))))) (aNil))))) (oV (eTup (aCons (eVar 1) (aCons (eVar 2) (aNil)))))) (eOp2 D.eqD (oV (eOp1 D.lenSet (oVar 4))) (oV (eOp1 D.lenD (oVar 4)))))))
  (sNil))))
def f_is_way : Fn := fnE (fun j => false) 4 1 b_is_way
def pn_loops_from : Nat → Bool := fun j => decide (j < 3) && (fun j => false) j
def b_loops_from (fk : Fn) : ES :=
  sSeq (sPar (pn_loops_from) [3, 4] (pOwn (eLst (aNil)) (pVal (eOp2 D.ixD (oV (eOp2 D.ixD (oV (eFldC 0 "jumps" (oVar 0))) (oV (eOp2 D.ixD (oVar 1) (oV (eOp1 D.negD (oV (eC (.int 1))))))))) (oV (eC (.int 1)))) (pNil))))
  (sSeq (sIf (bV (eOp2 D.eqD (oVar 4) (oV (eOp2 D.ixD (oVar 2) (oV (eC (.int 0))))))) (sSeq (sRet (D.noOm (eLst (aCons (eVar 1) (aNil))))) (sNil)) (sNil))
  (sSeq (sIf (bV (eOp2 D.inD (oVar 4) (oVar 2))) (sSeq (sRet (D.noOm (eLst (aNil)))) (sNil)) (sNil))
  (sSeq (sForI (eiR2 (eOp2 D.addD (oV (eOp2 D.ixD (oVar 1) (oV (eC (.int 0))))) (oV (eC (.int 1)))) (eOp1 D.lenD (oV (eFldC 0 "jumps" (oVar 0))))) (gSet 5) (sSeq (sIf (bV (eOp2 D.eqD (oV (eOp2 D.ixD (oV (eOp2 D.ixD (oV (eFldC 0 "jumps" (oVar 0))) (oVar 5))) (oV (eC (.int 0))))) (oVar 4))) (sSeq (sEx (eExt 3 (eFz (eCl fk 3 0 (ordL [0, 1, 2]) (rCons (eVar 0) (rCons (eTup (aStar (oVar 1) (aCons (eVar 5) (aNil)))) (rCons (eTup (aStar (oVar 2) (aCons (eVar 4) (aNil)))) (rNil)))) (rNil))))) (sNil)) (sNil)) (sNil)))
  (sSeq (sRetO 3)
  (sNil)))))
def f_loops_from : Nat → Fn
  | 0 => fun _ => .no
  | fuel + 1 => fnE (fun j => false) 3 3 (b_loops_from (f_loops_from fuel))
def pn_loops : Nat → Bool := fun j => decide (j < 1) && (fun j => false) j
def b_loops : ES :=
  sSeq (sOwn (pn_loops) 1 (eLst (aNil)))
  (sSeq (sForI (eiEn (eFldC 0 "jumps" (oVar 0))) (gTupT [gSet 2, gSet 3]) (sSeq (sEx (eExt 1 (eFz (eCl (f_loops_from 14) 3 0 (ordL [0, 1, 2]) (rCons (eVar 0) (rCons (eTup (aCons (eVar 2) (aNil))) (rCons (eTup (aCons (eOp2 D.ixD (oVar 3) (oV (eC (.int 0)))) (aNil))) (rNil)))) (rNil))))) (sNil)))
  (sSeq (sRet (eOp1 D.tupleD (oV (eOp1 D.srtD (oVar 1)))))
  (sNil)))
def f_loops : Fn := fnE (fun j => false) 1 3 b_loops
def pn_need_loop : Nat → Bool := fun j => decide (j < 2) && (fun j => false) j
def b_need_loop : ES :=
  sSeq (sIf (bNot (bV (eFz (eCl f_is_loop 2 0 (ordL [0, 1]) (rCons (eVar 0) (rCons (eVar 1) (rNil))) (rNil))))) (sNo) (sNil))
  (sNil)
def f_need_loop : Fn := fnE (fun j => false) 2 0 b_need_loop
def pn_places_of : Nat → Bool := fun j => decide (j < 2) && (fun j => false) j
def b_places_of : ES :=
  sSeq (sEx (eFz (eCl f_need_loop 2 0 (ordL [0, 1]) (rCons (eVar 0) (rCons (eVar 1) (rNil))) (rNil))))
  (sSeq (sRet (eOp1 D.tupleD (oV (eOp1 D.srtD (oV (eFz (eCl f_starts_of 2 0 (ordL [0, 1]) (rCons (eVar 0) (rCons (eVar 1) (rNil))) (rNil))))))))
  (sNil))
def f_places_of : Fn := fnE (fun j => false) 2 0 b_places_of
def pn__law_first_right : Nat → Bool := fun j => decide (j < 3) && (fun j => false) j
def b__law_first_right : ES :=
  sSeq (sIf (bV (eInEq 0 f_Code___eq__ true (a1V (D.noOm (eMk 0 f_Code___init__ 0 3 (ordL [0, 3, 2, 1]) rNil (rCons (D.noOm (eLst (aCons (eTup (aCons (eVar 0) (aCons (eVar 1) (aCons (eC (.int 2)) (aNil))))) (aCons (eTup (aCons (eVar 1) (aCons (eVar 0) (aCons (eC (.int 3)) (aNil))))) (aNil))))) (rCons (eVar 0) (rCons (eTup (aCons (eVar 0) (aCons (eVar 1) (aNil)))) (rNil))))))) (a1V (eVar 2)))) (sSeq (sRet (eC (.bl false))) (sNil)) (sNil))
  (sSeq (sSet (pn__law_first_right) 3 (eFz (eMt 0 "with_jump" f_Code_with_jump 0 1 (ordL [0, 1]) (a1V (eVar 2)) rNil (rCons (eTup (aCons (eVar 1) (aCons (eVar 1) (aCons (eC (.int 1)) (aNil))))) (rNil)))))
  (sSeq (sIf (bOr (bV (eInEq 0 f_Code___eq__ true (a1V (eFz (eMt 0 "without_jump" f_Code_without_jump 0 1 (ordL [0, 1]) (a1V (eVar 3)) rNil (rCons (eC (.int 2)) (rNil))))) (a1V (eVar 2)))) (bV (eInEq 0 f_Code___eq__ true (a1V (eFz (eMt 0 "priced" f_Code_priced 0 2 (ordL [0, 2, 1]) (a1V (eVar 2)) rNil (rCons (eC (.int 2)) (rCons (eC (.int 0)) (rNil)))))) (a1V (eVar 2))))) (sSeq (sRet (eC (.bl false))) (sNil)) (sNil))
  (sSeq (sIf (bOr (bV (eOp2 D.neD (oV (eFz (eCl f_loops 0 1 (ordL [0]) rNil (rCons (eVar 2) (rNil))))) (oV (eTup (aCons (eTup (aCons (eC (.int 0)) (aCons (eC (.int 1)) (aNil)))) (aNil)))))) (bV (eOp2 D.isnD (oV (eFz (eCl f_is_loop 0 2 (ordL [1, 0]) rNil (rCons (eTup (aCons (eC (.int 0)) (aCons (eC (.int 1)) (aNil)))) (rCons (eVar 2) (rNil)))))) (oV (eC (.bl true)))))) (sSeq (sRet (eC (.bl false))) (sNil)) (sNil))
  (sSeq (sRet (eAnd (eOp2 D.eqD (oV (eFz (eCl f_places_of 0 2 (ordL [1, 0]) rNil (rCons (eTup (aCons (eC (.int 0)) (aCons (eC (.int 1)) (aNil)))) (rCons (eVar 2) (rNil)))))) (oV (eTup (aCons (eVar 0) (aCons (eVar 1) (aNil)))))) (eOp2 D.isD (oV (eFz (eCl f_is_way 0 4 (ordL [3, 2, 1, 0]) rNil (rCons (eTup (aCons (eC (.int 0)) (aNil))) (rCons (eVar 1) (rCons (eVar 0) (rCons (eVar 2) (rNil)))))))) (oV (eC (.bl true))))))
  (sNil)))))
def f__law_first_right : Fn := fnE (fun j => false) 3 1 b__law_first_right
def pn__law_next : Nat → Bool := fun j => decide (j < 2) && (fun j => j == 0) j
def b__law_next : ES :=
  sSeq (sWh (bAnd (bV (omAt 0 omLeft)) (bV (eOp2 D.eqD (oV (omAt 0 omHead)) (oV (eC (.int 0)))))) (sSeq (omSet 0 omTail) (sNil)) 70)
  (sSeq (sIf (bV (omAt 0 omLeft)) (sSeq (sSet (pn__law_next) 6 (omAt 0 omHead)) (sSeq (omSetI 0 (eOp2 D.fdivD (oVar 6) (oVar 1)) omHeadS) (sSeq (sRet (eOp2 D.modD (oV (eOp1 D.intD (oVar 6))) (oVar 1))) (sNil)))) (sNil))
  (sSeq (sPar (pn__law_next) [2, 3] (pVal (eOp2 D.addD (oV (omAt 0 omInt)) (oV (eC (.int 1)))) (pVal (omAt 0 omCells) (pNil))))
  (sSeq (omSetI 0 (eVar 2) omAtS)
  (sSeq (sSet (pn__law_next) 4 (eIf (bV (eOp2 D.neD (oVar 3) (oV (D.noOm (eLst (aNil)))))) (eOp1 D.intD (oV (eOp2 D.ixD (oVar 3) (oV (eOp2 D.modD (oV (eOp1 D.intD (oV (eOp2 D.addD (oV (eOp2 D.mulD (oVar 2) (oVar 2))) (oV (eOp2 D.fdivD (oVar 2) (oV (eC (.int 2))))))))) (oV (eOp1 D.lenD (oVar 3)))))))) (eC (.int 5))))
  (sSeq (sSet (pn__law_next) 5 (eOp2 D.modD (oV (eOp1 D.intD (oV (eOp2 D.addD (oV (eOp2 D.addD (oV (eOp2 D.mulD (oVar 4) (oV (eC (.int 40692))))) (oV (eOp2 D.mulD (oVar 2) (oV (eC (.int 65539))))))) (oV (eOp2 D.mulD (oV (eOp2 D.mulD (oV (eC (.int 7001))) (oVar 2))) (oVar 2))))))) (oV (eC (.int 2147483399)))))
  (sSeq (sRet (eOp2 D.modD (oV (eOp1 D.intD (oV (eOp2 D.fdivD (oV (eOp2 D.modD (oV (eOp1 D.intD (oV (eOp2 D.addD (oV (eOp2 D.mulD (oVar 5) (oV (eC (.int 48271))))) (oV (eOp2 D.mulD (oV (eC (.int 1013))) (oVar 2))))))) (oV (eC (.int 2147483647))))) (oV (eC (.int 13))))))) (oVar 1)))
  (sNil)))))))
def f__law_next : Fn := fnE (fun j => j == 0) 2 5 b__law_next
def pn__law_names : Nat → Bool := fun j => decide (j < 2) && (fun j => j == 0) j
def b__law_names : ES :=
  sSeq (sPar (pn__law_names) [2, 3] (pVal (eC (.str "abcdefghijklmnopqrstuvwxyz")) (pVal (eC (.str "")) (pNil))))
  (sSeq (sForI (eiR1 (eFz (eCl f__law_next 2 0 (ordL [0, 1]) (rOwn 0 (rCons (eC (.int 8)) (rNil))) (rNil)))) (gSet 4) (sSeq (sSet (pn__law_names) 3 (eOp2 D.addD (oVar 3) (oV (eOp2 D.ixD (oVar 2) (oV (eFz (eCl f__law_next 2 0 (ordL [0, 1]) (rOwn 0 (rCons (eC (.int 26)) (rNil))) (rNil)))))))) (sNil)))
  (sSeq (sPar (pn__law_names) [5, 6, 7] (pVal (eFz (eCl f__law_next 2 0 (ordL [0, 1]) (rOwn 0 (rCons (eOp2 D.addD (oV (eOp1 D.lenD (oVar 3))) (oV (eC (.int 1)))) (rNil))) (rNil))) (pVal (eFz (eCl f__law_next 2 0 (ordL [0, 1]) (rOwn 0 (rCons (eC (.int 26)) (rNil))) (rNil))) (pVal (eOp2 D.ixD (oV (D.noOm (eLst (aCons (eC (.int 1)) (aCons (eC (.int 3)) (aCons (eC (.int 5)) (aCons (eC (.int 7)) (aCons (eC (.int 9)) (aCons (eC (.int 11)) (aNil)))))))))) (oV (eFz (eCl f__law_next 2 0 (ordL [0, 1]) (rOwn 0 (rCons (eC (.int 6)) (rNil))) (rNil))))) (pNil)))))
  (sSeq (sSet (pn__law_names) 8 (eSl (oV (eOp2 D.addD (oVar 3) (oV (eOp2 D.mulS (oV (eOp2 D.ixD (oVar 2) (oVar 6))) (oV (eC (.int 8))))))) lNo (lSo (eC (.int 8)))))
  (sSeq (sIf (bAnd (bV (eOp2 D.gtD (oVar 7) (oV (eC (.int 5))))) (bV (eOp2 D.ltD (oVar 1) (oV (eC (.int 9)))))) (sSeq (sRet (D.noOm (eLc [4] (eiR1 (eVar 1)) (gSet 4) (bYes) (eIf (bV (eOp2 D.gtD (oVar 7) (oV (eC (.int 7))))) (eSl (oVar 8) (lSo (eVar 4)) lNo) (eSl (oVar 8) lNo (lSo (eOp2 D.subD (oV (eOp2 D.addD (oVar 4) (oV (eC (.int 9))))) (oVar 1)))))))) (sNil)) (sNil))
  (sSeq (sRet (D.noOm (eLc [4] (eiR1 (eVar 1)) (gSet 4) (bYes) (eOp2 D.addD (oV (eOp2 D.addD (oV (eSl (oVar 3) lNo (lSo (eVar 5)))) (oV (eOp2 D.ixD (oVar 2) (oV (eOp2 D.modD (oV (eOp1 D.intD (oV (eOp2 D.addD (oVar 6) (oV (eOp2 D.mulD (oVar 7) (oVar 4))))))) (oV (eC (.int 26))))))))) (oV (eSl (oVar 3) (lSo (eVar 5)) lNo))))))
  (sNil))))))
def f__law_names : Fn := fnE (fun j => j == 0) 2 7 b__law_names
def pn_cost_of : Nat → Bool := fun j => decide (j < 2) && (fun j => false) j
def b_cost_of : ES :=
  sSeq (sRet (eOp1 D.sumD (oV (D.noOm (eLc [2] (eiSeq (eVar 1)) (gSet 2) (bYes) (eOp2 D.ixD (oV (eOp2 D.ixD (oV (eFldC 0 "jumps" (oVar 0))) (oVar 2))) (oV (eC (.int 2)))))))))
  (sNil)
def f_cost_of : Fn := fnE (fun j => false) 2 1 b_cost_of
def pn_is_lot : Nat → Bool := fun j => decide (j < 2) && (fun j => false) j
def b_is_lot : ES :=
  sSeq (sRet (eAnd (eFz (eCl f_are_numbers 2 0 (ordL [0, 1]) (rCons (eVar 0) (rCons (eVar 1) (rNil))) (rNil))) (eFz (eCl f_are_rising 1 0 (ordL [0]) (rCons (eVar 1) (rNil)) (rNil)))))
  (sNil)
def f_is_lot : Fn := fnE (fun j => false) 2 0 b_is_lot
def pn_are_packed : Nat → Bool := fun j => decide (j < 2) && (fun j => false) j
def b_are_packed : ES :=
  sSeq (sForI (eiItems (eVar 1)) (gTupT [gSet 2, gSet 3]) (sSeq (sIf (bV (eOp2 D.gtD (oV (eOp1 D.sumD (oV (D.noOm (eLc [4, 5] (eiSeq (eVar 0)) (gTupT [gSet 4, gSet 5]) (bV (eOp2 D.inD (oVar 2) (oVar 4))) (eVar 5)))))) (oVar 3))) (sSeq (sRet (eC (.bl false))) (sNil)) (sNil)) (sNil)))
  (sSeq (sRet (eC (.bl true)))
  (sNil))
def f_are_packed : Fn := fnE (fun j => false) 2 4 b_are_packed
def pn_Code_prices : Nat → Bool := fun j => decide (j < 1) && (fun j => false) j
def b_Code_prices : ES :=
  sSeq (sRet (eOp1 D.tupleD (oV (D.noOm (eLc [1] (eiSeq (eFldC 0 "jumps" (oVar 0))) (gSet 1) (bYes) (eOp2 D.ixD (oVar 1) (oV (eC (.int 2)))))))))
  (sNil)
def f_Code_prices : Fn := fnE (fun j => false) 1 1 b_Code_prices
def pn_price_of : Nat → Bool := fun j => decide (j < 1) && (fun j => false) j
def b_price_of : ES :=
  sSeq (sRet (eOp1 dEnumD (oV (eFz (eMt 0 "prices" f_Code_prices 0 0 (ordL [0]) (a1V (eVar 0)) rNil (rNil))))))
  (sNil)
def f_price_of : Fn := fnE (fun j => false) 1 0 b_price_of
def pn_is_pack : Nat → Bool := fun j => decide (j < 2) && (fun j => false) j
def b_is_pack : ES :=
  sSeq (sIf (bOr (bNot (bV (eIsi 2 [.tup] (oVar 1)))) (bNot (bV (eOp1 D.allD (oV (D.noOm (eLc [2] (eiSeq (eVar 1)) (gSet 2) (bYes) (eAnd (eIsi 2 [.tup] (oVar 2)) (eOp2 D.eqD (oV (eOp1 D.lenD (oVar 2))) (oV (eC (.int 2)))))))))))) (sSeq (sRet (eC (.bl false))) (sNil)) (sNil))
  (sSeq (sIf (bNot (bV (eOp1 D.allD (oV (D.noOm (eLc [2] (eiSeq (eVar 1)) (gSet 2) (bYes) (eAnd (eFz (eCl f_is_loop 2 0 (ordL [0, 1]) (rCons (eVar 0) (rCons (eOp2 D.ixD (oVar 2) (oV (eC (.int 0)))) (rNil))) (rNil))) (eAnd (eFz (eCl f_is_number 1 0 (ordL [0]) (rCons (eOp2 D.ixD (oVar 2) (oV (eC (.int 1)))) (rNil)) (rNil))) (eOp2 D.gtD (oV (eOp2 D.ixD (oVar 2) (oV (eC (.int 1))))) (oV (eC (.int 0)))))))))))) (sSeq (sRet (eC (.bl false))) (sNil)) (sNil))
  (sSeq (sRet (eAnd (eFz (eCl f_are_rising 1 0 (ordL [0]) (rCons (D.noOm (eLc [2] (eiSeq (eVar 1)) (gSet 2) (bYes) (eOp2 D.ixD (oVar 2) (oV (eC (.int 0)))))) (rNil)) (rNil))) (eFz (eCl f_are_packed 2 0 (ordL [0, 1]) (rCons (eVar 1) (rCons (eFz (eCl f_price_of 1 0 (ordL [0]) (rCons (eVar 0) (rNil)) (rNil))) (rNil))) (rNil)))))
  (sNil)))
def f_is_pack : Fn := fnE (fun j => false) 2 1 b_is_pack
def pn_meets_all : Nat → Bool := fun j => decide (j < 2) && (fun j => false) j
def b_meets_all : ES :=
  sSeq (sRet (eOp1 D.allD (oV (D.noOm (eLc [2] (eiSeq (eFz (eCl f_loops 1 0 (ordL [0]) (rCons (eVar 0) (rNil)) (rNil)))) (gSet 2) (bYes) (eOp1 D.anyD (oV (D.noOm (eLc [3] (eiSeq (eVar 2)) (gSet 3) (bYes) (eOp2 D.inD (oVar 3) (oVar 1)))))))))))
  (sNil)
def f_meets_all : Fn := fnE (fun j => false) 2 2 b_meets_all
def pn_check : Nat → Bool := fun j => decide (j < 3) && (fun j => false) j
def b_check : ES :=
  sSeq (sIf (bOr (bNot (bV (eFz (eCl f_is_lot 2 0 (ordL [0, 1]) (rCons (eVar 0) (rCons (eVar 1) (rNil))) (rNil))))) (bNot (bV (eFz (eCl f_meets_all 2 0 (ordL [0, 1]) (rCons (eVar 0) (rCons (eVar 1) (rNil))) (rNil)))))) (sNo) (sNil))
  (sSeq (sIf (bNot (bV (eFz (eCl f_is_pack 2 0 (ordL [0, 1]) (rCons (eVar 0) (rCons (eVar 2) (rNil))) (rNil))))) (sNo) (sNil))
  (sSeq (sIf (bV (eOp2 D.neD (oV (eFz (eCl f_cost_of 2 0 (ordL [0, 1]) (rCons (eVar 0) (rCons (eVar 1) (rNil))) (rNil)))) (oV (eOp1 D.sumD (oV (D.noOm (eLc [3, 4] (eiSeq (eVar 2)) (gTupT [gSet 3, gSet 4]) (bYes) (eVar 4)))))))) (sNo) (sNil))
  (sSeq (sRet (eFz (eCl f_cost_of 2 0 (ordL [0, 1]) (rCons (eVar 0) (rCons (eVar 1) (rNil))) (rNil))))
  (sNil))))
def f_check : Fn := fnE (fun j => false) 3 2 b_check
def pn_lumps_ahead : Nat → Bool := fun j => decide (j < 3) && (fun j => false) j
def b_lumps_ahead : ES :=
  sSeq (sSet (pn_lumps_ahead) 3 (D.noOm (eLc [4, 5, 6] (eiSeq (eFldC 0 "jumps" (oVar 0))) (gTupT [gSet 4, gSet 5, gSet 6]) (bAnd (bV (eOp2 D.eqD (oV (eOp2 D.dgetD (oVar 1) (oVar 5))) (oVar 2))) (bV (eOp2 D.neD (oV (eOp2 D.dgetD (oVar 1) (oVar 4))) (oVar 2)))) (eOp2 D.dgetD (oVar 1) (oVar 4)))))
  (sSeq (sRet (eOp1 D.srtSet (oVar 3)))
  (sNil))
def f_lumps_ahead : Fn := fnE (fun j => false) 3 4 b_lumps_ahead
def pn_put_into : Nat → Bool := fun j => decide (j < 3) && (fun j => false) j
def b_put_into : ES :=
  sSeq (sRet (D.noOm (eDc [3, 4] (eiItems (eVar 0)) (gTupT [gSet 3, gSet 4]) (bYes) (eVar 3) (eIf (bV (eOp2 D.eqD (oVar 4) (oVar 1))) (eVar 2) (eVar 4)))))
  (sNil)
def f_put_into : Fn := fnE (fun j => false) 3 2 b_put_into
def pn_check_foldings : Nat → Bool := fun j => decide (j < 2) && (fun j => false) j
def b_check_foldings : ES :=
  sSeq (sIf (bOr (bNot (bV (eIsi 2 [.tup] (oVar 1)))) (bNot (bV (eOp1 D.allD (oV (D.noOm (eLc [6] (eiSeq (eVar 1)) (gSet 6) (bYes) (eAnd (eIsi 2 [.tup] (oVar 6)) (eOp2 D.eqD (oV (eOp1 D.lenD (oVar 6))) (oV (eC (.int 2)))))))))))) (sNo) (sNil))
  (sSeq (sSet (pn_check_foldings) 2 (D.noOm (eDc [3] (eiSeq (eFldC 0 "places" (oVar 0))) (gSet 3) (bYes) (eVar 3) (eVar 3))))
  (sSeq (sForI (eiSeq (eVar 1)) (gTupT [gSet 3, gSet 4]) (sSeq (sSet (pn_check_foldings) 5 (eOp1 listVals (oVar 2))) (sSeq (sIf (bOr (bNot (bV (eFz (eCl f_is_place 2 0 (ordL [0, 1]) (rCons (eVar 5) (rCons (eVar 3) (rNil))) (rNil))))) (bOr (bNot (bV (eFz (eCl f_is_place 2 0 (ordL [0, 1]) (rCons (eVar 5) (rCons (eVar 4) (rNil))) (rNil))))) (bV (eOp2 D.inD (oVar 3) (oV (eTup (aCons (eVar 4) (aCons (eFldC 0 "door" (oVar 0)) (aNil))))))))) (sNo) (sNil)) (sSeq (sIf (bV (eOp2 D.neD (oV (eFz (eCl f_lumps_ahead 3 0 (ordL [0, 1, 2]) (rCons (eVar 0) (rCons (eVar 2) (rCons (eVar 3) (rNil)))) (rNil)))) (oV (D.noOm (eLst (aCons (eVar 4) (aNil))))))) (sNo) (sNil)) (sSeq (sSet (pn_check_foldings) 2 (eFz (eCl f_put_into 3 0 (ordL [0, 1, 2]) (rCons (eVar 2) (rCons (eVar 3) (rCons (eVar 4) (rNil)))) (rNil)))) (sNil))))))
  (sSeq (sIf (bV (eOp2 D.gtD (oV (eOp1 D.lenSet (oV (eOp1 listVals (oVar 2))))) (oV (eC (.int 1))))) (sNo) (sNil))
  (sNil))))
def f_check_foldings : Fn := fnE (fun j => false) 2 5 b_check_foldings
def pn_end_on : Nat → Bool := fun j => decide (j < 3) && (fun j => false) j
def b_end_on : ES :=
  sSeq (sIf (bNot (bV (eFz (eCl f_are_numbers 2 0 (ordL [0, 1]) (rCons (eVar 0) (rCons (eVar 2) (rNil))) (rNil))))) (sSeq (sRet (eC .non)) (sNil)) (sNil))
  (sSeq (sSet (pn_end_on) 3 (eIf (bV (eOp2 D.eqD (oVar 2) (oV (eTup (aNil))))) (eFldC 0 "door" (oVar 0)) (eOp2 D.ixD (oV (eOp2 D.ixD (oV (eFldC 0 "jumps" (oVar 0))) (oV (eOp2 D.ixD (oVar 2) (oV (eOp1 D.negD (oV (eC (.int 1))))))))) (oV (eC (.int 1))))))
  (sSeq (sSet (pn_end_on) 4 (eFz (eCl f_starts_of 2 0 (ordL [0, 1]) (rCons (eVar 0) (rCons (eVar 1) (rNil))) (rNil))))
  (sSeq (sIf (bOr (bNot (bV (eFz (eCl f_is_way 4 0 (ordL [0, 1, 2, 3]) (rCons (eVar 0) (rCons (eFldC 0 "door" (oVar 0)) (rCons (eVar 3) (rCons (eVar 2) (rNil))))) (rNil))))) (bV (eOp2 D.ninD (oVar 3) (oVar 4)))) (sSeq (sRet (eC .non)) (sNil)) (sNil))
  (sSeq (sRet (eIf (bNot (bV (eOp1 D.anyD (oV (D.noOm (eLc [5] (eiSeq (eFz (eCl f_starts_of 2 0 (ordL [0, 1]) (rCons (eVar 0) (rCons (eVar 2) (rNil))) (rNil)))) (gSet 5) (bYes) (eOp2 D.inD (oVar 5) (oVar 4)))))))) (eVar 3) (eC .non)))
  (sNil)))))
def f_end_on : Fn := fnE (fun j => false) 3 3 b_end_on
def pn_check_doors : Nat → Bool := fun j => decide (j < 2) && (fun j => false) j
def b_check_doors : ES :=
  sSeq (sIf (bOr (bNot (bV (eIsi 2 [.tup] (oVar 1)))) (bOr (bV (eOp2 D.eqD (oVar 1) (oV (eTup (aNil))))) (bNot (bV (eIsi 2 [.str] (oV (eOp2 D.ixD (oVar 1) (oV (eC (.int 0)))))))))) (sNo) (sNil))
  (sSeq (sIf (bV (eOp2 D.ninD (oV (eTup (aCons (eOp2 D.ixD (oVar 1) (oV (eC (.int 0)))) (aCons (eOp1 D.lenD (oVar 1)) (aNil))))) (oV (eTup (aCons (eTup (aCons (eC (.str "one")) (aCons (eC (.int 2)) (aNil)))) (aCons (eTup (aCons (eC (.str "several")) (aCons (eC (.int 4)) (aNil)))) (aNil))))))) (sNo) (sNil))
  (sSeq (sIf (bV (eOp2 D.eqD (oV (eOp2 D.ixD (oVar 1) (oV (eC (.int 0))))) (oV (eC (.str "one"))))) (sSeq (sEx (eFz (eCl f_check_foldings 2 0 (ordL [0, 1]) (rCons (eVar 0) (rCons (eOp2 D.ixD (oVar 1) (oV (eC (.int 1)))) (rNil))) (rNil)))) (sSeq (sRet (eC (.str "one"))) (sNil))) (sNil))
  (sSeq (sUn (gTupT [gSet 2, gSet 3, gSet 4, gSet 5]) (eVar 1))
  (sSeq (sIf (bNot (bV (eFz (eCl f_is_loop 2 0 (ordL [0, 1]) (rCons (eVar 0) (rCons (eVar 3) (rNil))) (rNil))))) (sNo) (sNil))
  (sSeq (sSet (pn_check_doors) 6 (eFz (eCl f_end_on 3 0 (ordL [0, 1, 2]) (rCons (eVar 0) (rCons (eVar 3) (rCons (eVar 4) (rNil)))) (rNil))))
  (sSeq (sIf (bV (eOp2 D.isD (oVar 6) (oV (eC .non)))) (sNo) (sNil))
  (sSeq (sIf (bV (eOp2 D.inD (oV (eFz (eCl f_end_on 3 0 (ordL [0, 1, 2]) (rCons (eVar 0) (rCons (eVar 3) (rCons (eVar 5) (rNil)))) (rNil)))) (oV (eTup (aCons (eC .non) (aCons (eVar 6) (aNil))))))) (sNo) (sNil))
  (sSeq (sRet (eC (.str "several")))
  (sNil)))))))))
def f_check_doors : Fn := fnE (fun j => false) 2 5 b_check_doors
def pn_need_lot : Nat → Bool := fun j => decide (j < 2) && (fun j => false) j
def b_need_lot : ES :=
  sSeq (sIf (bNot (bV (eFz (eCl f_is_lot 2 0 (ordL [0, 1]) (rCons (eVar 0) (rCons (eVar 1) (rNil))) (rNil))))) (sNo) (sNil))
  (sNil)
def f_need_lot : Fn := fnE (fun j => false) 2 0 b_need_lot
def pn_cost : Nat → Bool := fun j => decide (j < 2) && (fun j => false) j
def b_cost : ES :=
  sSeq (sEx (eFz (eCl f_need_lot 2 0 (ordL [0, 1]) (rCons (eVar 0) (rCons (eVar 1) (rNil))) (rNil))))
  (sSeq (sRet (eFz (eCl f_cost_of 2 0 (ordL [0, 1]) (rCons (eVar 0) (rCons (eVar 1) (rNil))) (rNil))))
  (sNil))
def f_cost : Fn := fnE (fun j => false) 2 0 b_cost
def pn_ways_to : Nat → Bool := fun j => decide (j < 2) && (fun j => false) j
def b_ways_to : ES :=
  sSeq (sPar (pn_ways_to) [2, 3] (pOwn (eD1 (eFldC 0 "door" (oVar 0)) (eTup (aNil))) (pOwn (eLst (aCons (eFldC 0 "door" (oVar 0)) (aNil))) (pNil))))
  (sSeq (sWh (bV (eOp2 D.neD (oVar 3) (oV (D.noOm (eLst (aNil)))))) (sSeq (sSet (pn_ways_to) 4 (ePop0 3)) (sSeq (sForI (eiEn (eFldC 0 "jumps" (oVar 0))) (gTupT [gSet 5, gTupT [gSet 6, gSet 7, gSet 8]]) (sSeq (sIf (bAnd (bV (eOp2 D.eqD (oVar 6) (oVar 4))) (bAnd (bV (eOp2 D.ninD (oVar 4) (oVar 1))) (bV (eOp2 D.ninD (oVar 7) (oVar 2))))) (sSeq (sDPut 2 (eVar 7) (eTup (aStar (oV (eOp2 D.dgetD (oVar 2) (oVar 4))) (aCons (eVar 5) (aNil))))) (sSeq (sEx (eApp 3 (eVar 7))) (sNil))) (sNil)) (sNil))) (sNil))) 64)
  (sSeq (sRet (D.noOm (eDc [9] (eiSeq (eVar 1)) (gSet 9) (bV (eOp2 D.inD (oVar 9) (oVar 2))) (eVar 9) (eOp2 D.dgetD (oVar 2) (oVar 9)))))
  (sNil)))
def f_ways_to : Fn := fnE (fun j => false) 2 8 b_ways_to
def pn_door_so : Nat → Bool := fun j => decide (j < 2) && (fun j => false) j
def b_door_so : ES :=
  sSeq (sSet (pn_door_so) 2 (eOp1 listD (oV (eFz (eCl f_ways_to 2 0 (ordL [0, 1]) (rCons (eVar 0) (rCons (eFz (eCl f_starts_of 2 0 (ordL [0, 1]) (rCons (eVar 0) (rCons (eVar 1) (rNil))) (rNil))) (rNil))) (rNil))))))
  (sSeq (sRet (eIf (bV (eOp2 D.eqD (oV (eOp1 D.lenD (oVar 2))) (oV (eC (.int 1))))) (eOp2 D.ixD (oVar 2) (oV (eC (.int 0)))) (eC .non)))
  (sNil))
def f_door_so : Fn := fnE (fun j => false) 2 1 b_door_so
def pn_door_of : Nat → Bool := fun j => decide (j < 2) && (fun j => false) j
def b_door_of : ES :=
  sSeq (sEx (eFz (eCl f_need_loop 2 0 (ordL [0, 1]) (rCons (eVar 0) (rCons (eVar 1) (rNil))) (rNil))))
  (sSeq (sRet (eFz (eCl f_door_so 2 0 (ordL [0, 1]) (rCons (eVar 0) (rCons (eVar 1) (rNil))) (rNil))))
  (sNil))
def f_door_of : Fn := fnE (fun j => false) 2 0 b_door_of
def pn_foldings_of : Nat → Bool := fun j => decide (j < 1) && (fun j => false) j
def b_foldings_of : ES :=
  sSeq (sPar (pn_foldings_of) [1, 2, 3] (pVal (D.noOm (eDc [6] (eiSeq (eFldC 0 "places" (oVar 0))) (gSet 6) (bYes) (eVar 6) (eVar 6))) (pOwn (eLst (aNil)) (pVal (eC (.bl false)) (pNil)))))
  (sSeq (sWh (bNot (bV (eVar 3))) (sSeq (sSet (pn_foldings_of) 3 (eC (.bl true))) (sSeq (sForI (eiSeq (eOp1 D.srtSet (oV (eOp1 listVals (oVar 1))))) (gSet 4) (sSeq (sSet (pn_foldings_of) 5 (eFz (eCl f_lumps_ahead 3 0 (ordL [0, 1, 2]) (rCons (eVar 0) (rCons (eVar 1) (rCons (eVar 4) (rNil)))) (rNil)))) (sSeq (sIf (bAnd (bV (eOp2 D.neD (oVar 4) (oV (eFldC 0 "door" (oVar 0))))) (bAnd (bV (eOp2 D.eqD (oV (eOp1 D.lenD (oVar 5))) (oV (eC (.int 1))))) (bV (eVar 3)))) (sSeq (sEx (eApp 2 (eTup (aCons (eVar 4) (aCons (eOp2 D.ixD (oVar 5) (oV (eC (.int 0)))) (aNil)))))) (sSeq (sSet (pn_foldings_of) 1 (eFz (eCl f_put_into 3 0 (ordL [0, 1, 2]) (rCons (eVar 1) (rCons (eVar 4) (rCons (eOp2 D.ixD (oVar 5) (oV (eC (.int 0)))) (rNil)))) (rNil)))) (sSeq (sSet (pn_foldings_of) 3 (eC (.bl false))) (sNil)))) (sNil)) (sNil)))) (sNil))) 64)
  (sSeq (sRet (eOp1 D.tupleD (oVar 2)))
  (sNil)))
def f_foldings_of : Fn := fnE (fun j => false) 1 6 b_foldings_of
def pn_doors_paper : Nat → Bool := fun j => decide (j < 1) && (fun j => false) j
def b_doors_paper : ES :=
  sSeq (sForI (eiSeq (eFz (eCl f_loops 1 0 (ordL [0]) (rCons (eVar 0) (rNil)) (rNil)))) (gSet 1) (sSeq (sSet (pn_doors_paper) 2 (eFz (eCl f_ways_to 2 0 (ordL [0, 1]) (rCons (eVar 0) (rCons (eFz (eCl f_starts_of 2 0 (ordL [0, 1]) (rCons (eVar 0) (rCons (eVar 1) (rNil))) (rNil))) (rNil))) (rNil)))) (sSeq (sIf (bV (eOp2 D.gtD (oV (eOp1 D.lenD (oVar 2))) (oV (eC (.int 1))))) (sSeq (sSet (pn_doors_paper) 3 (D.noOm (eLc [4] (eiSeq (eOp1 D.srtD (oVar 2))) (gSet 4) (bYes) (eOp2 D.dgetD (oVar 2) (oVar 4))))) (sSeq (sRet (eTup (aCons (eC (.str "several")) (aCons (eVar 1) (aCons (eOp2 D.ixD (oVar 3) (oV (eC (.int 0)))) (aCons (eOp2 D.ixD (oVar 3) (oV (eC (.int 1)))) (aNil))))))) (sNil))) (sNil)) (sNil))))
  (sSeq (sRet (eTup (aCons (eC (.str "one")) (aCons (eFz (eCl f_foldings_of 1 0 (ordL [0]) (rCons (eVar 0) (rNil)) (rNil))) (aNil)))))
  (sNil))
def f_doors_paper : Fn := fnE (fun j => false) 1 4 b_doors_paper
def pn_is_cut : Nat → Bool := fun j => decide (j < 2) && (fun j => false) j
def b_is_cut : ES :=
  sSeq (sEx (eFz (eCl f_need_lot 2 0 (ordL [0, 1]) (rCons (eVar 0) (rCons (eVar 1) (rNil))) (rNil))))
  (sSeq (sRet (eFz (eCl f_meets_all 2 0 (ordL [0, 1]) (rCons (eVar 0) (rCons (eVar 1) (rNil))) (rNil))))
  (sNil))
def f_is_cut : Fn := fnE (fun j => false) 2 0 b_is_cut
def pn_Hitting_look : Nat → Bool := fun j => decide (j < 4) && (fun j => j == 0) j
def b_Hitting_look (fk : Fn) : ES :=
  sSeq (sIf (bAnd (bV (eOp2 D.isnD (oV (eFldC 1 "best" (oVar 0))) (oV (eC .non)))) (bV (eOp2 D.geD (oVar 3) (oV (eOp2 D.ixD (oV (eFldC 1 "best" (oVar 0))) (oV (eC (.int 0)))))))) (sSeq (sRetN) (sNil)) (sNil))
  (sSeq (sSet (pn_Hitting_look) 4 (D.noOm (eLc [8] (eiSeq (eFldC 1 "own_sets" (oVar 0))) (gSet 8) (bNot (bV (eOp1 D.anyD (oV (D.noOm (eLc [7] (eiSeq (eVar 8)) (gSet 7) (bYes) (eOp2 D.inD (oVar 7) (oVar 1)))))))) (eVar 8))))
  (sSeq (sIf (bV (eOp2 D.eqD (oVar 4) (oV (D.noOm (eLst (aNil)))))) (sSeq (sFldS 1 0 "best" (eTup (aCons (eVar 3) (aCons (eOp1 D.tupleD (oV (eOp1 D.srtD (oVar 1)))) (aNil))))) (sSeq (sRetN) (sNil))) (sNil))
  (sSeq (sSet (pn_Hitting_look) 5 (eOp1 minLen (oV (D.noOm (eLc [8] (eiSeq (eVar 4)) (gSet 8) (bYes) (D.noOm (eLc [7] (eiSeq (eVar 8)) (gSet 7) (bV (eOp2 D.ninD (oVar 7) (oVar 2))) (eVar 7))))))))
  (sSeq (sForI (eiEn (eVar 5)) (gTupT [gSet 6, gSet 7]) (sSeq (sEx (eFz (eMt 1 "look" fk 3 0 (ordL [0, 1, 2, 3]) (a1S 0) (rCons (eTup (aStar (oVar 1) (aCons (eVar 7) (aNil)))) (rCons (eOp2 D.addD (oVar 2) (oV (eOp1 D.tupleD (oV (eSl (oVar 5) lNo (lSo (eVar 6))))))) (rCons (eOp2 D.addD (oVar 3) (oV (eOp2 D.dgetD (oV (eFldC 1 "own_price" (oVar 0))) (oVar 7)))) (rNil)))) (rNil)))) (sNil)))
  (sNil)))))
def f_Hitting_look : Nat → Fn
  | 0 => fun _ => .no
  | fuel + 1 => fnE (fun j => j == 0) 4 5 (b_Hitting_look (f_Hitting_look fuel))
def pn_Hitting___init__ : Nat → Bool := fun j => decide (j < 3) && (fun j => j == 0) j
def b_Hitting___init__ : ES :=
  sSeq (sFldS 1 0 "own_sets" (eVar 1))
  (sSeq (sFldS 1 0 "own_price" (eVar 2))
  (sSeq (sFldS 1 0 "best" (eC .non))
  (sSeq (sEx (eFz (eMt 1 "look" (f_Hitting_look 14) 3 0 (ordL [0, 1, 2, 3]) (a1S 0) (rCons (eOp1 D.tupleD (oV (D.noOm (eLc [3] (eiSeq (eOp1 D.srtD (oVar 2))) (gSet 3) (bV (eOp2 D.eqD (oV (eOp2 D.dgetD (oVar 2) (oVar 3))) (oV (eC (.int 0))))) (eVar 3))))) (rCons (eTup (aNil)) (rCons (eC (.int 0)) (rNil)))) (rNil))))
  (sNil))))
def f_Hitting___init__ : Fn := fnE (fun j => j == 0) 3 1 b_Hitting___init__
def pn_hits : Nat → Bool := fun j => decide (j < 2) && (fun j => false) j
def b_hits : ES :=
  sSeq (sRet (eFldC 1 "best" (oV (D.noOm (eMk 1 f_Hitting___init__ 2 0 (ordL [0, 1, 2]) (rCons (eVar 0) (rCons (eVar 1) (rNil))) (rNil))))))
  (sNil)
def f_hits : Fn := fnE (fun j => false) 2 0 b_hits
def pn_least_cost : Nat → Bool := fun j => decide (j < 1) && (fun j => false) j
def b_least_cost : ES :=
  sSeq (sRet (eOp2 D.ixD (oV (eFz (eCl f_hits 2 0 (ordL [0, 1]) (rCons (eFz (eCl f_loops 1 0 (ordL [0]) (rCons (eVar 0) (rNil)) (rNil))) (rCons (eFz (eCl f_price_of 1 0 (ordL [0]) (rCons (eVar 0) (rNil)) (rNil))) (rNil))) (rNil)))) (oV (eC (.int 0)))))
  (sNil)
def f_least_cost : Fn := fnE (fun j => false) 1 0 b_least_cost
def pn_least_cut : Nat → Bool := fun j => decide (j < 1) && (fun j => false) j
def b_least_cut : ES :=
  sSeq (sRet (eOp2 D.ixD (oV (eFz (eCl f_hits 2 0 (ordL [0, 1]) (rCons (eFz (eCl f_loops 1 0 (ordL [0]) (rCons (eVar 0) (rNil)) (rNil))) (rCons (eFz (eCl f_price_of 1 0 (ordL [0]) (rCons (eVar 0) (rNil)) (rNil))) (rNil))) (rNil)))) (oV (eC (.int 1)))))
  (sNil)
def f_least_cut : Fn := fnE (fun j => false) 1 0 b_least_cut
def pn_least_within : Nat → Bool := fun j => decide (j < 2) && (fun j => false) j
def b_least_within : ES :=
  sSeq (sEx (eFz (eCl f_need_lot 2 0 (ordL [0, 1]) (rCons (eVar 0) (rCons (eVar 1) (rNil))) (rNil))))
  (sSeq (sSet (pn_least_within) 2 (D.noOm (eLc [3] (eiSeq (eFz (eCl f_loops 1 0 (ordL [0]) (rCons (eVar 0) (rNil)) (rNil)))) (gSet 3) (bYes) (eTup (aCons (eVar 3) (aCons (eOp1 D.tupleD (oV (D.noOm (eLc [6] (eiSeq (eVar 3)) (gSet 6) (bV (eOp2 D.inD (oVar 6) (oVar 1))) (eVar 6))))) (aNil)))))))
  (sSeq (sForI (eiSeq (eVar 2)) (gTupT [gSet 3, gSet 4]) (sSeq (sIf (bV (eOp2 D.eqD (oVar 4) (oV (eTup (aNil))))) (sNo) (sNil)) (sNil)))
  (sSeq (sSet (pn_least_within) 5 (D.noOm (eDc [6, 5] (eiItems (eFz (eCl f_price_of 1 0 (ordL [0]) (rCons (eVar 0) (rNil)) (rNil)))) (gTupT [gSet 6, gSet 5]) (bV (eOp2 D.inD (oVar 6) (oVar 1))) (eVar 6) (eVar 5))))
  (sSeq (sRet (eOp2 D.ixD (oV (eFz (eCl f_hits 2 0 (ordL [0, 1]) (rCons (D.noOm (eLc [3, 4] (eiSeq (eVar 2)) (gTupT [gSet 3, gSet 4]) (bYes) (eVar 4))) (rCons (eVar 5) (rNil))) (rNil)))) (oV (eC (.int 1)))))
  (sNil)))))
def f_least_within : Fn := fnE (fun j => false) 2 5 b_least_within
def pn_one_door : Nat → Bool := fun j => decide (j < 1) && (fun j => false) j
def b_one_door : ES :=
  sSeq (sRet (eOp1 D.allD (oV (D.noOm (eLc [1] (eiSeq (eFz (eCl f_loops 1 0 (ordL [0]) (rCons (eVar 0) (rNil)) (rNil)))) (gSet 1) (bYes) (eOp2 D.isnD (oV (eFz (eCl f_door_so 2 0 (ordL [0, 1]) (rCons (eVar 0) (rCons (eVar 1) (rNil))) (rNil)))) (oV (eC .non))))))))
  (sNil)
def f_one_door : Fn := fnE (fun j => false) 1 1 b_one_door
def pn_need_one_door : Nat → Bool := fun j => decide (j < 1) && (fun j => false) j
def b_need_one_door : ES :=
  sSeq (sSet (pn_need_one_door) 1 (eFz (eCl f_doors_paper 1 0 (ordL [0]) (rCons (eVar 0) (rNil)) (rNil))))
  (sSeq (sIf (bV (eOp2 D.eqD (oV (eOp2 D.ixD (oVar 1) (oV (eC (.int 0))))) (oV (eC (.str "several"))))) (sNo) (sNil))
  (sNil))
def f_need_one_door : Fn := fnE (fun j => false) 1 1 b_need_one_door
def pn_times_of : Nat → Bool := fun j => decide (j < 4) && (fun j => false) j
def b_times_of : ES :=
  sSeq (sPar (pn_times_of) [4, 5] (pVal (eC (.int 0)) (pVal (eOp1 minF (oV (D.noOm (eLc [8] (eiSeq (eVar 3)) (gSet 8) (bYes) (eOp2 D.dgetD (oVar 1) (oVar 8)))))) (pNil))))
  (sSeq (sWh (bV (eOp2 D.ltD (oVar 4) (oVar 5))) (sSeq (sSet (pn_times_of) 6 (eOp2 D.fdivD (oV (eOp2 D.addD (oV (eOp2 D.addD (oVar 4) (oVar 5))) (oV (eC (.int 1))))) (oV (eC (.int 2))))) (sSeq (sSet (pn_times_of) 7 (D.noOm (eDc [8, 9] (eiItems (eVar 1)) (gTupT [gSet 8, gSet 9]) (bYes) (eVar 8) (eOp2 D.subD (oVar 9) (oV (eIf (bV (eOp2 D.inD (oVar 8) (oVar 3))) (eVar 6) (eC (.int 0)))))))) (sSeq (sIf (bV (eOp2 D.eqD (oV (eOp2 D.ixD (oV (eFz (eCl f_hits 2 0 (ordL [0, 1]) (rCons (eVar 0) (rCons (eVar 7) (rNil))) (rNil)))) (oV (eC (.int 0))))) (oV (eOp2 D.subD (oVar 2) (oVar 6))))) (sSeq (sSet (pn_times_of) 4 (eVar 6)) (sNil)) (sSeq (sSet (pn_times_of) 5 (eOp2 D.subD (oVar 6) (oV (eC (.int 1))))) (sNil))) (sNil)))) 64)
  (sSeq (sRet (eVar 4))
  (sNil)))
def f_times_of : Fn := fnE (fun j => false) 4 6 b_times_of
def pn_packed : Nat → Bool := fun j => decide (j < 2) && (fun j => false) j
def b_packed : ES :=
  sSeq (sPar (pn_packed) [2, 3] (pVal (eOp2 D.ixD (oV (eFz (eCl f_hits 2 0 (ordL [0, 1]) (rCons (eVar 0) (rCons (eVar 1) (rNil))) (rNil)))) (oV (eC (.int 0)))) (pOwn (eLst (aNil)) (pNil))))
  (sSeq (sForI (eiSeq (eVar 0)) (gSet 4) (sSeq (sSet (pn_packed) 5 (eIf (bV (eOp2 D.gtD (oVar 2) (oV (eC (.int 0))))) (eFz (eCl f_times_of 4 0 (ordL [0, 1, 2, 3]) (rCons (eVar 0) (rCons (eVar 1) (rCons (eVar 2) (rCons (eVar 4) (rNil))))) (rNil))) (eC (.int 0)))) (sSeq (sIf (bV (eOp2 D.gtD (oVar 5) (oV (eC (.int 0))))) (sSeq (sEx (eApp 3 (eTup (aCons (eVar 4) (aCons (eVar 5) (aNil)))))) (sSeq (sSet (pn_packed) 1 (D.noOm (eDc [6, 7] (eiItems (eVar 1)) (gTupT [gSet 6, gSet 7]) (bYes) (eVar 6) (eOp2 D.subD (oVar 7) (oV (eIf (bV (eOp2 D.inD (oVar 6) (oVar 4))) (eVar 5) (eC (.int 0)))))))) (sSeq (sSet (pn_packed) 2 (eOp2 D.subD (oVar 2) (oVar 5))) (sNil)))) (sNil)) (sNil))))
  (sSeq (sRet (eOp1 D.tupleD (oVar 3)))
  (sNil)))
def f_packed : Fn := fnE (fun j => false) 2 6 b_packed
def pn_paper : Nat → Bool := fun j => decide (j < 1) && (fun j => false) j
def b_paper : ES :=
  sSeq (sEx (eFz (eCl f_need_one_door 1 0 (ordL [0]) (rCons (eVar 0) (rNil)) (rNil))))
  (sSeq (sRet (eTup (aCons (eFz (eCl f_least_cut 1 0 (ordL [0]) (rCons (eVar 0) (rNil)) (rNil))) (aCons (eFz (eCl f_packed 2 0 (ordL [0, 1]) (rCons (eFz (eCl f_loops 1 0 (ordL [0]) (rCons (eVar 0) (rNil)) (rNil))) (rCons (eFz (eCl f_price_of 1 0 (ordL [0]) (rCons (eVar 0) (rNil)) (rNil))) (rNil))) (rNil))) (aNil)))))
  (sNil))
def f_paper : Fn := fnE (fun j => false) 1 0 b_paper
def pn__law_second_right : Nat → Bool := fun j => decide (j < 3) && (fun j => false) j
def b__law_second_right : ES :=
  sSeq (sIf (bOr (bV (eOp2 D.isnD (oV (eFz (eCl f_one_door 0 1 (ordL [0]) rNil (rCons (eVar 2) (rNil))))) (oV (eC (.bl true))))) (bV (eOp2 D.neD (oV (eFz (eCl f_door_of 0 2 (ordL [1, 0]) rNil (rCons (eTup (aCons (eC (.int 0)) (aCons (eC (.int 1)) (aNil)))) (rCons (eVar 2) (rNil)))))) (oVar 0)))) (sSeq (sRet (eC (.bl false))) (sNil)) (sNil))
  (sSeq (sIf (bOr (bV (eOp2 D.neD (oV (eFz (eCl f_check_doors 0 2 (ordL [1, 0]) rNil (rCons (eFz (eCl f_doors_paper 0 1 (ordL [0]) rNil (rCons (eVar 2) (rNil)))) (rCons (eVar 2) (rNil)))))) (oV (eC (.str "one"))))) (bV (eOp2 D.isnD (oV (eFz (eCl f_is_cut 0 2 (ordL [1, 0]) rNil (rCons (eTup (aCons (eC (.int 0)) (aNil))) (rCons (eVar 2) (rNil)))))) (oV (eC (.bl true)))))) (sSeq (sRet (eC (.bl false))) (sNil)) (sNil))
  (sSeq (sIf (bOr (bV (eOp2 D.neD (oV (eFz (eCl f_cost 0 2 (ordL [1, 0]) rNil (rCons (eTup (aCons (eC (.int 0)) (aCons (eC (.int 1)) (aNil)))) (rCons (eVar 2) (rNil)))))) (oV (eC (.int 5))))) (bOr (bV (eOp2 D.neD (oV (eFz (eCl f_least_cost 0 1 (ordL [0]) rNil (rCons (eVar 2) (rNil))))) (oV (eC (.int 2))))) (bV (eOp2 D.neD (oV (eFz (eCl f_least_cut 0 1 (ordL [0]) rNil (rCons (eVar 2) (rNil))))) (oV (eTup (aCons (eC (.int 0)) (aNil)))))))) (sSeq (sRet (eC (.bl false))) (sNil)) (sNil))
  (sSeq (sIf (bOr (bV (eOp2 D.neD (oV (eFz (eCl f_least_within 0 2 (ordL [1, 0]) rNil (rCons (eTup (aCons (eC (.int 1)) (aNil))) (rCons (eVar 2) (rNil)))))) (oV (eTup (aCons (eC (.int 1)) (aNil)))))) (bV (eOp2 D.isnD (oV (eFz (eCl f_is_pack 0 2 (ordL [1, 0]) rNil (rCons (eTup (aCons (eTup (aCons (eTup (aCons (eC (.int 0)) (aCons (eC (.int 1)) (aNil)))) (aCons (eC (.int 2)) (aNil)))) (aNil))) (rCons (eVar 2) (rNil)))))) (oV (eC (.bl true)))))) (sSeq (sRet (eC (.bl false))) (sNil)) (sNil))
  (sSeq (sIf (bV (eOp2 D.neD (oV (eFz (eCl f_paper 0 1 (ordL [0]) rNil (rCons (eVar 2) (rNil))))) (oV (eTup (aCons (eTup (aCons (eC (.int 0)) (aNil))) (aCons (eTup (aCons (eTup (aCons (eTup (aCons (eC (.int 0)) (aCons (eC (.int 1)) (aNil)))) (aCons (eC (.int 2)) (aNil)))) (aNil))) (aNil))))))) (sSeq (sRet (eC (.bl false))) (sNil)) (sNil))
  (sSeq (sRet (eOp2 D.eqD (oV (eFz (eCl f_check 0 3 (ordL [2, 1, 0]) rNil (rCons (eTup (aCons (eTup (aCons (eTup (aCons (eC (.int 0)) (aCons (eC (.int 1)) (aNil)))) (aCons (eC (.int 2)) (aNil)))) (aNil))) (rCons (eTup (aCons (eC (.int 0)) (aNil))) (rCons (eVar 2) (rNil))))))) (oV (eC (.int 2)))))
  (sNil))))))
def f__law_second_right : Fn := fnE (fun j => false) 3 0 b__law_second_right
def pn_law : Nat → Bool := fun j => decide (j < 1) && (fun j => false) j
def b_law : ES :=
  sSeq (sOwn (pn_law) 1 (eOw (eCl f__law_begun 1 0 (ordL [0]) (rCons (eVar 0) (rNil)) (rNil))))
  (sSeq (sForI (eiR1 (eOp2 D.addD (oV (eC (.int 1))) (oV (eB2 D.min2D (oV (eOp1 D.lenD (oVar 0))) (oV (eC (.int 4))))))) (gSet 2) (sSeq (sUn (gLstT [gSet 3, gSet 4]) (eOp1 D.srtD (oV (eFz (eCl f__law_names 2 0 (ordL [0, 1]) (rOwn 1 (rCons (eC (.int 2)) (rNil))) (rNil)))))) (sSeq (sSet (pn_law) 5 (D.noOm (eMk 0 f_Code___init__ 3 0 (ordL [0, 1, 2, 3]) (rCons (eTup (aCons (eVar 3) (aCons (eVar 4) (aNil)))) (rCons (eVar 3) (rCons (D.noOm (eLst (aCons (eTup (aCons (eVar 3) (aCons (eVar 4) (aCons (eC (.int 2)) (aNil))))) (aCons (eTup (aCons (eVar 4) (aCons (eVar 3) (aCons (eC (.int 3)) (aNil))))) (aNil))))) (rNil)))) (rNil)))) (sSeq (sIf (bOr (bNot (bV (eFz (eCl f__law_first_right 3 0 (ordL [0, 1, 2]) (rCons (eVar 3) (rCons (eVar 4) (rCons (eVar 5) (rNil)))) (rNil))))) (bNot (bV (eFz (eCl f__law_second_right 3 0 (ordL [0, 1, 2]) (rCons (eVar 3) (rCons (eVar 4) (rCons (eVar 5) (rNil)))) (rNil)))))) (sSeq (sRet (eC (.bl false))) (sNil)) (sNil)) (sNil)))))
  (sSeq (sRet (eC (.bl true)))
  (sNil)))
def f_law : Fn := fnE (fun j => false) 1 5 b_law
end
end Wk
namespace Wk
open PySem PySem.Spec PyProof.Rows L2 Lc Hd
abbrev Sx (K : PySem.W.Frag) (mg : Str → Option Value) : Prop := Sy fa fc fn K mg
abbrev Tc (K : PySem.W.Frag) : Tx := TxOf K clss
section
variable {P : Program} {w : World} {K : PySem.W.Frag} {mg : Str → Option Value} {base : Heap}
theorem n_is_word (S : Sx K mg) : mg "is_word" = some (.ref (He.ga K "is_word")) := by
  obtain ⟨h, a, b, c⟩ := S.ex
  exact He.glo_ok a b (c.fact 0 (f := .glo "is_word") rfl)
theorem n_is_number (S : Sx K mg) : mg "is_number" = some (.ref (He.ga K "is_number")) := by
  obtain ⟨h, a, b, c⟩ := S.ex
  exact He.glo_ok a b (c.fact 1 (f := .glo "is_number") rfl)
theorem n_is_among (S : Sx K mg) : mg "is_among" = some (.ref (He.ga K "is_among")) := by
  obtain ⟨h, a, b, c⟩ := S.ex
  exact He.glo_ok a b (c.fact 2 (f := .glo "is_among") rfl)
theorem n_are_rising (S : Sx K mg) : mg "are_rising" = some (.ref (He.ga K "are_rising")) := by
  obtain ⟨h, a, b, c⟩ := S.ex
  exact He.glo_ok a b (c.fact 3 (f := .glo "are_rising") rfl)
theorem n_are_places (S : Sx K mg) : mg "are_places" = some (.ref (He.ga K "are_places")) := by
  obtain ⟨h, a, b, c⟩ := S.ex
  exact He.glo_ok a b (c.fact 4 (f := .glo "are_places") rfl)
theorem n_is_place (S : Sx K mg) : mg "is_place" = some (.ref (He.ga K "is_place")) := by
  obtain ⟨h, a, b, c⟩ := S.ex
  exact He.glo_ok a b (c.fact 5 (f := .glo "is_place") rfl)
theorem n_is_price (S : Sx K mg) : mg "is_price" = some (.ref (He.ga K "is_price")) := by
  obtain ⟨h, a, b, c⟩ := S.ex
  exact He.glo_ok a b (c.fact 6 (f := .glo "is_price") rfl)
theorem n_is_jump (S : Sx K mg) : mg "is_jump" = some (.ref (He.ga K "is_jump")) := by
  obtain ⟨h, a, b, c⟩ := S.ex
  exact He.glo_ok a b (c.fact 7 (f := .glo "is_jump") rfl)
theorem n_places_from (S : Sx K mg) : mg "places_from" = some (.ref (He.ga K "places_from")) := by
  obtain ⟨h, a, b, c⟩ := S.ex
  exact He.glo_ok a b (c.fact 8 (f := .glo "places_from") rfl)
theorem n_loops_from (S : Sx K mg) : mg "loops_from" = some (.ref (He.ga K "loops_from")) := by
  obtain ⟨h, a, b, c⟩ := S.ex
  exact He.glo_ok a b (c.fact 9 (f := .glo "loops_from") rfl)
theorem n_loops (S : Sx K mg) : mg "loops" = some (.ref (He.ga K "loops")) := by
  obtain ⟨h, a, b, c⟩ := S.ex
  exact He.glo_ok a b (c.fact 10 (f := .glo "loops") rfl)
theorem n_are_numbers (S : Sx K mg) : mg "are_numbers" = some (.ref (He.ga K "are_numbers")) := by
  obtain ⟨h, a, b, c⟩ := S.ex
  exact He.glo_ok a b (c.fact 11 (f := .glo "are_numbers") rfl)
theorem n_go_on (S : Sx K mg) : mg "go_on" = some (.ref (He.ga K "go_on")) := by
  obtain ⟨h, a, b, c⟩ := S.ex
  exact He.glo_ok a b (c.fact 12 (f := .glo "go_on") rfl)
theorem n_starts_of (S : Sx K mg) : mg "starts_of" = some (.ref (He.ga K "starts_of")) := by
  obtain ⟨h, a, b, c⟩ := S.ex
  exact He.glo_ok a b (c.fact 13 (f := .glo "starts_of") rfl)
theorem n_is_loop (S : Sx K mg) : mg "is_loop" = some (.ref (He.ga K "is_loop")) := by
  obtain ⟨h, a, b, c⟩ := S.ex
  exact He.glo_ok a b (c.fact 14 (f := .glo "is_loop") rfl)
theorem n_need_loop (S : Sx K mg) : mg "need_loop" = some (.ref (He.ga K "need_loop")) := by
  obtain ⟨h, a, b, c⟩ := S.ex
  exact He.glo_ok a b (c.fact 15 (f := .glo "need_loop") rfl)
theorem n_places_of (S : Sx K mg) : mg "places_of" = some (.ref (He.ga K "places_of")) := by
  obtain ⟨h, a, b, c⟩ := S.ex
  exact He.glo_ok a b (c.fact 16 (f := .glo "places_of") rfl)
theorem n_is_way (S : Sx K mg) : mg "is_way" = some (.ref (He.ga K "is_way")) := by
  obtain ⟨h, a, b, c⟩ := S.ex
  exact He.glo_ok a b (c.fact 17 (f := .glo "is_way") rfl)
theorem n_ways_to (S : Sx K mg) : mg "ways_to" = some (.ref (He.ga K "ways_to")) := by
  obtain ⟨h, a, b, c⟩ := S.ex
  exact He.glo_ok a b (c.fact 18 (f := .glo "ways_to") rfl)
theorem n_door_so (S : Sx K mg) : mg "door_so" = some (.ref (He.ga K "door_so")) := by
  obtain ⟨h, a, b, c⟩ := S.ex
  exact He.glo_ok a b (c.fact 19 (f := .glo "door_so") rfl)
theorem n_door_of (S : Sx K mg) : mg "door_of" = some (.ref (He.ga K "door_of")) := by
  obtain ⟨h, a, b, c⟩ := S.ex
  exact He.glo_ok a b (c.fact 20 (f := .glo "door_of") rfl)
theorem n_one_door (S : Sx K mg) : mg "one_door" = some (.ref (He.ga K "one_door")) := by
  obtain ⟨h, a, b, c⟩ := S.ex
  exact He.glo_ok a b (c.fact 21 (f := .glo "one_door") rfl)
theorem n_lumps_ahead (S : Sx K mg) : mg "lumps_ahead" = some (.ref (He.ga K "lumps_ahead")) := by
  obtain ⟨h, a, b, c⟩ := S.ex
  exact He.glo_ok a b (c.fact 22 (f := .glo "lumps_ahead") rfl)
theorem n_put_into (S : Sx K mg) : mg "put_into" = some (.ref (He.ga K "put_into")) := by
  obtain ⟨h, a, b, c⟩ := S.ex
  exact He.glo_ok a b (c.fact 23 (f := .glo "put_into") rfl)
theorem n_foldings_of (S : Sx K mg) : mg "foldings_of" = some (.ref (He.ga K "foldings_of")) := by
  obtain ⟨h, a, b, c⟩ := S.ex
  exact He.glo_ok a b (c.fact 24 (f := .glo "foldings_of") rfl)
theorem n_doors_paper (S : Sx K mg) : mg "doors_paper" = some (.ref (He.ga K "doors_paper")) := by
  obtain ⟨h, a, b, c⟩ := S.ex
  exact He.glo_ok a b (c.fact 25 (f := .glo "doors_paper") rfl)
theorem n_need_one_door (S : Sx K mg) : mg "need_one_door" = some (.ref (He.ga K "need_one_door")) := by
  obtain ⟨h, a, b, c⟩ := S.ex
  exact He.glo_ok a b (c.fact 26 (f := .glo "need_one_door") rfl)
theorem n_check_foldings (S : Sx K mg) : mg "check_foldings" = some (.ref (He.ga K "check_foldings")) := by
  obtain ⟨h, a, b, c⟩ := S.ex
  exact He.glo_ok a b (c.fact 27 (f := .glo "check_foldings") rfl)
theorem n_end_on (S : Sx K mg) : mg "end_on" = some (.ref (He.ga K "end_on")) := by
  obtain ⟨h, a, b, c⟩ := S.ex
  exact He.glo_ok a b (c.fact 28 (f := .glo "end_on") rfl)
theorem n_check_doors (S : Sx K mg) : mg "check_doors" = some (.ref (He.ga K "check_doors")) := by
  obtain ⟨h, a, b, c⟩ := S.ex
  exact He.glo_ok a b (c.fact 29 (f := .glo "check_doors") rfl)
theorem n_hits (S : Sx K mg) : mg "hits" = some (.ref (He.ga K "hits")) := by
  obtain ⟨h, a, b, c⟩ := S.ex
  exact He.glo_ok a b (c.fact 30 (f := .glo "hits") rfl)
theorem n_times_of (S : Sx K mg) : mg "times_of" = some (.ref (He.ga K "times_of")) := by
  obtain ⟨h, a, b, c⟩ := S.ex
  exact He.glo_ok a b (c.fact 31 (f := .glo "times_of") rfl)
theorem n_packed (S : Sx K mg) : mg "packed" = some (.ref (He.ga K "packed")) := by
  obtain ⟨h, a, b, c⟩ := S.ex
  exact He.glo_ok a b (c.fact 32 (f := .glo "packed") rfl)
theorem n_is_lot (S : Sx K mg) : mg "is_lot" = some (.ref (He.ga K "is_lot")) := by
  obtain ⟨h, a, b, c⟩ := S.ex
  exact He.glo_ok a b (c.fact 33 (f := .glo "is_lot") rfl)
theorem n_need_lot (S : Sx K mg) : mg "need_lot" = some (.ref (He.ga K "need_lot")) := by
  obtain ⟨h, a, b, c⟩ := S.ex
  exact He.glo_ok a b (c.fact 34 (f := .glo "need_lot") rfl)
theorem n_meets_all (S : Sx K mg) : mg "meets_all" = some (.ref (He.ga K "meets_all")) := by
  obtain ⟨h, a, b, c⟩ := S.ex
  exact He.glo_ok a b (c.fact 35 (f := .glo "meets_all") rfl)
theorem n_is_cut (S : Sx K mg) : mg "is_cut" = some (.ref (He.ga K "is_cut")) := by
  obtain ⟨h, a, b, c⟩ := S.ex
  exact He.glo_ok a b (c.fact 36 (f := .glo "is_cut") rfl)
theorem n_cost_of (S : Sx K mg) : mg "cost_of" = some (.ref (He.ga K "cost_of")) := by
  obtain ⟨h, a, b, c⟩ := S.ex
  exact He.glo_ok a b (c.fact 37 (f := .glo "cost_of") rfl)
theorem n_cost (S : Sx K mg) : mg "cost" = some (.ref (He.ga K "cost")) := by
  obtain ⟨h, a, b, c⟩ := S.ex
  exact He.glo_ok a b (c.fact 38 (f := .glo "cost") rfl)
theorem n_price_of (S : Sx K mg) : mg "price_of" = some (.ref (He.ga K "price_of")) := by
  obtain ⟨h, a, b, c⟩ := S.ex
  exact He.glo_ok a b (c.fact 39 (f := .glo "price_of") rfl)
theorem n_least_cost (S : Sx K mg) : mg "least_cost" = some (.ref (He.ga K "least_cost")) := by
  obtain ⟨h, a, b, c⟩ := S.ex
  exact He.glo_ok a b (c.fact 40 (f := .glo "least_cost") rfl)
theorem n_least_cut (S : Sx K mg) : mg "least_cut" = some (.ref (He.ga K "least_cut")) := by
  obtain ⟨h, a, b, c⟩ := S.ex
  exact He.glo_ok a b (c.fact 41 (f := .glo "least_cut") rfl)
theorem n_least_within (S : Sx K mg) : mg "least_within" = some (.ref (He.ga K "least_within")) := by
  obtain ⟨h, a, b, c⟩ := S.ex
  exact He.glo_ok a b (c.fact 42 (f := .glo "least_within") rfl)
theorem n_are_packed (S : Sx K mg) : mg "are_packed" = some (.ref (He.ga K "are_packed")) := by
  obtain ⟨h, a, b, c⟩ := S.ex
  exact He.glo_ok a b (c.fact 43 (f := .glo "are_packed") rfl)
theorem n_is_pack (S : Sx K mg) : mg "is_pack" = some (.ref (He.ga K "is_pack")) := by
  obtain ⟨h, a, b, c⟩ := S.ex
  exact He.glo_ok a b (c.fact 44 (f := .glo "is_pack") rfl)
theorem n_paper (S : Sx K mg) : mg "paper" = some (.ref (He.ga K "paper")) := by
  obtain ⟨h, a, b, c⟩ := S.ex
  exact He.glo_ok a b (c.fact 45 (f := .glo "paper") rfl)
theorem n_check (S : Sx K mg) : mg "check" = some (.ref (He.ga K "check")) := by
  obtain ⟨h, a, b, c⟩ := S.ex
  exact He.glo_ok a b (c.fact 46 (f := .glo "check") rfl)
theorem n__law_begun (S : Sx K mg) : mg "_law_begun" = some (.ref (He.ga K "_law_begun")) := by
  obtain ⟨h, a, b, c⟩ := S.ex
  exact He.glo_ok a b (c.fact 47 (f := .glo "_law_begun") rfl)
theorem n__law_next (S : Sx K mg) : mg "_law_next" = some (.ref (He.ga K "_law_next")) := by
  obtain ⟨h, a, b, c⟩ := S.ex
  exact He.glo_ok a b (c.fact 48 (f := .glo "_law_next") rfl)
theorem n__law_names (S : Sx K mg) : mg "_law_names" = some (.ref (He.ga K "_law_names")) := by
  obtain ⟨h, a, b, c⟩ := S.ex
  exact He.glo_ok a b (c.fact 49 (f := .glo "_law_names") rfl)
theorem n__law_first_right (S : Sx K mg) : mg "_law_first_right" = some (.ref (He.ga K "_law_first_right")) := by
  obtain ⟨h, a, b, c⟩ := S.ex
  exact He.glo_ok a b (c.fact 50 (f := .glo "_law_first_right") rfl)
theorem n__law_second_right (S : Sx K mg) : mg "_law_second_right" = some (.ref (He.ga K "_law_second_right")) := by
  obtain ⟨h, a, b, c⟩ := S.ex
  exact He.glo_ok a b (c.fact 51 (f := .glo "_law_second_right") rfl)
theorem n_law (S : Sx K mg) : mg "law" = some (.ref (He.ga K "law")) := by
  obtain ⟨h, a, b, c⟩ := S.ex
  exact He.glo_ok a b (c.fact 52 (f := .glo "law") rfl)
theorem n_Code (S : Sx K mg) : mg "Code" = some (.ref (He.ga K "Code")) := by
  obtain ⟨h, a, b, c⟩ := S.ex
  exact He.glo_ok a b (c.fact 53 (f := .glo "Code") rfl)
theorem cls_Code (S : Sx K mg) : Cls K (He.ga K "Code") := by
  obtain ⟨h, a, b, c⟩ := S.ex
  exact He.cls_ok (c.fact 54 (f := .cls "Code") rfl)
theorem mk_Code (S : Sx K mg) : Mk K (He.ga K "Code") (He.ma K (He.ga K "Code") "__init__") := by
  obtain ⟨h, a, b, c⟩ := S.ex
  exact He.mkr_ok (c.fact 55 (f := .mkr "Code") rfl)
theorem n_Hitting (S : Sx K mg) : mg "Hitting" = some (.ref (He.ga K "Hitting")) := by
  obtain ⟨h, a, b, c⟩ := S.ex
  exact He.glo_ok a b (c.fact 56 (f := .glo "Hitting") rfl)
theorem cls_Hitting (S : Sx K mg) : Cls K (He.ga K "Hitting") := by
  obtain ⟨h, a, b, c⟩ := S.ex
  exact He.cls_ok (c.fact 57 (f := .cls "Hitting") rfl)
theorem mk_Hitting (S : Sx K mg) : Mk K (He.ga K "Hitting") (He.ma K (He.ga K "Hitting") "__init__") := by
  obtain ⟨h, a, b, c⟩ := S.ex
  exact He.mkr_ok (c.fact 58 (f := .mkr "Hitting") rfl)
theorem me_Code_with_jump (S : Sx K mg) : Meth K (He.ga K "Code") "with_jump" (He.ma K (He.ga K "Code") "with_jump") := by
  obtain ⟨h, a, b, c⟩ := S.ex
  exact He.meth_ok (c.fact 59 (f := .meth "Code" "with_jump") rfl)
theorem me_Code_need_jump (S : Sx K mg) : Meth K (He.ga K "Code") "need_jump" (He.ma K (He.ga K "Code") "need_jump") := by
  obtain ⟨h, a, b, c⟩ := S.ex
  exact He.meth_ok (c.fact 60 (f := .meth "Code" "need_jump") rfl)
theorem me_Code_without_jump (S : Sx K mg) : Meth K (He.ga K "Code") "without_jump" (He.ma K (He.ga K "Code") "without_jump") := by
  obtain ⟨h, a, b, c⟩ := S.ex
  exact He.meth_ok (c.fact 61 (f := .meth "Code" "without_jump") rfl)
theorem me_Code_priced (S : Sx K mg) : Meth K (He.ga K "Code") "priced" (He.ma K (He.ga K "Code") "priced") := by
  obtain ⟨h, a, b, c⟩ := S.ex
  exact He.meth_ok (c.fact 62 (f := .meth "Code" "priced") rfl)
theorem me_Code_prices (S : Sx K mg) : Meth K (He.ga K "Code") "prices" (He.ma K (He.ga K "Code") "prices") := by
  obtain ⟨h, a, b, c⟩ := S.ex
  exact He.meth_ok (c.fact 63 (f := .meth "Code" "prices") rfl)
theorem me_Hitting_look (S : Sx K mg) : Meth K (He.ga K "Hitting") "look" (He.ma K (He.ga K "Hitting") "look") := by
  obtain ⟨h, a, b, c⟩ := S.ex
  exact He.meth_ok (c.fact 64 (f := .meth "Hitting" "look") rfl)
theorem na_Code_places (S : Sx K mg) : NoAttr K (He.ga K "Code") "places" := by
  obtain ⟨h, a, b, c⟩ := S.ex
  exact He.noat_ok (c.fact 65 (f := .noat "Code" "places") rfl)
theorem na_Code_door (S : Sx K mg) : NoAttr K (He.ga K "Code") "door" := by
  obtain ⟨h, a, b, c⟩ := S.ex
  exact He.noat_ok (c.fact 66 (f := .noat "Code" "door") rfl)
theorem na_Code_jumps (S : Sx K mg) : NoAttr K (He.ga K "Code") "jumps" := by
  obtain ⟨h, a, b, c⟩ := S.ex
  exact He.noat_ok (c.fact 67 (f := .noat "Code" "jumps") rfl)
theorem na_Hitting_own_sets (S : Sx K mg) : NoAttr K (He.ga K "Hitting") "own_sets" := by
  obtain ⟨h, a, b, c⟩ := S.ex
  exact He.noat_ok (c.fact 68 (f := .noat "Hitting" "own_sets") rfl)
theorem na_Hitting_own_price (S : Sx K mg) : NoAttr K (He.ga K "Hitting") "own_price" := by
  obtain ⟨h, a, b, c⟩ := S.ex
  exact He.noat_ok (c.fact 69 (f := .noat "Hitting" "own_price") rfl)
theorem na_Hitting_best (S : Sx K mg) : NoAttr K (He.ga K "Hitting") "best" := by
  obtain ⟨h, a, b, c⟩ := S.ex
  exact He.noat_ok (c.fact 70 (f := .noat "Hitting" "best") rfl)
theorem n_MOST_PLACES (S : Sx K mg) : ∃ t, mg "MOST_PLACES" = some (.int 7 t) := by
  obtain ⟨h, a, b, c⟩ := S.ex
  exact He.int_ok a b (c.fact 71 (f := .int "MOST_PLACES" 7) rfl)
theorem n_MOST_JUMPS (S : Sx K mg) : ∃ t, mg "MOST_JUMPS" = some (.int 12 t) := by
  obtain ⟨h, a, b, c⟩ := S.ex
  exact He.int_ok a b (c.fact 72 (f := .int "MOST_JUMPS" 12) rfl)
theorem n_MOST_PRICE (S : Sx K mg) : ∃ t, mg "MOST_PRICE" = some (.int 20 t) := by
  obtain ⟨h, a, b, c⟩ := S.ex
  exact He.int_ok a b (c.fact 73 (f := .int "MOST_PRICE" 20) rfl)
theorem n_MOST_LETTERS (S : Sx K mg) : ∃ t, mg "MOST_LETTERS" = some (.int 8 t) := by
  obtain ⟨h, a, b, c⟩ := S.ex
  exact He.int_ok a b (c.fact 74 (f := .int "MOST_LETTERS" 8) rfl)
theorem n_LETTERS (S : Sx K mg) : ∃ t, mg "LETTERS" = some (.str "abcdefghijklmnopqrstuvwxyz" t) := by
  obtain ⟨h, a, b, c⟩ := S.ex
  exact He.str_ok a b (c.fact 75 (f := .str "LETTERS" "abcdefghijklmnopqrstuvwxyz") rfl)
theorem n_ONE (S : Sx K mg) : ∃ t, mg "ONE" = some (.str "one" t) := by
  obtain ⟨h, a, b, c⟩ := S.ex
  exact He.str_ok a b (c.fact 76 (f := .str "ONE" "one") rfl)
theorem n_SEVERAL (S : Sx K mg) : ∃ t, mg "SEVERAL" = some (.str "several" t) := by
  obtain ⟨h, a, b, c⟩ := S.ex
  exact He.str_ok a b (c.fact 77 (f := .str "SEVERAL" "several") rfl)
theorem n_len (S : Sx K mg) : mg "len" = none := by
  obtain ⟨h, a, b, c⟩ := S.ex
  exact He.free_ok a b (c.fact 78 (f := .free "len") rfl)
theorem n_all (S : Sx K mg) : mg "all" = none := by
  obtain ⟨h, a, b, c⟩ := S.ex
  exact He.free_ok a b (c.fact 79 (f := .free "all") rfl)
theorem n_any (S : Sx K mg) : mg "any" = none := by
  obtain ⟨h, a, b, c⟩ := S.ex
  exact He.free_ok a b (c.fact 80 (f := .free "any") rfl)
theorem n_sorted (S : Sx K mg) : mg "sorted" = none := by
  obtain ⟨h, a, b, c⟩ := S.ex
  exact He.free_ok a b (c.fact 81 (f := .free "sorted") rfl)
theorem n_set (S : Sx K mg) : mg "set" = none := by
  obtain ⟨h, a, b, c⟩ := S.ex
  exact He.free_ok a b (c.fact 82 (f := .free "set") rfl)
theorem n_list (S : Sx K mg) : mg "list" = none := by
  obtain ⟨h, a, b, c⟩ := S.ex
  exact He.free_ok a b (c.fact 83 (f := .free "list") rfl)
theorem n_tuple (S : Sx K mg) : mg "tuple" = none := by
  obtain ⟨h, a, b, c⟩ := S.ex
  exact He.free_ok a b (c.fact 84 (f := .free "tuple") rfl)
theorem n_dict (S : Sx K mg) : mg "dict" = none := by
  obtain ⟨h, a, b, c⟩ := S.ex
  exact He.free_ok a b (c.fact 85 (f := .free "dict") rfl)
theorem n_min (S : Sx K mg) : mg "min" = none := by
  obtain ⟨h, a, b, c⟩ := S.ex
  exact He.free_ok a b (c.fact 86 (f := .free "min") rfl)
theorem n_sum (S : Sx K mg) : mg "sum" = none := by
  obtain ⟨h, a, b, c⟩ := S.ex
  exact He.free_ok a b (c.fact 87 (f := .free "sum") rfl)
theorem n_int (S : Sx K mg) : mg "int" = none := by
  obtain ⟨h, a, b, c⟩ := S.ex
  exact He.free_ok a b (c.fact 88 (f := .free "int") rfl)
theorem n_range (S : Sx K mg) : mg "range" = none := by
  obtain ⟨h, a, b, c⟩ := S.ex
  exact He.free_ok a b (c.fact 89 (f := .free "range") rfl)
theorem n_enumerate (S : Sx K mg) : mg "enumerate" = none := by
  obtain ⟨h, a, b, c⟩ := S.ex
  exact He.free_ok a b (c.fact 90 (f := .free "enumerate") rfl)
theorem n_zip (S : Sx K mg) : mg "zip" = none := by
  obtain ⟨h, a, b, c⟩ := S.ex
  exact He.free_ok a b (c.fact 91 (f := .free "zip") rfl)
theorem n_isinstance (S : Sx K mg) : mg "isinstance" = none := by
  obtain ⟨h, a, b, c⟩ := S.ex
  exact He.free_ok a b (c.fact 92 (f := .free "isinstance") rfl)
theorem n_str (S : Sx K mg) : mg "str" = none := by
  obtain ⟨h, a, b, c⟩ := S.ex
  exact He.free_ok a b (c.fact 93 (f := .free "str") rfl)
theorem n_bool (S : Sx K mg) : mg "bool" = none := by
  obtain ⟨h, a, b, c⟩ := S.ex
  exact He.free_ok a b (c.fact 94 (f := .free "bool") rfl)
theorem n_super (S : Sx K mg) : mg "super" = none := by
  obtain ⟨h, a, b, c⟩ := S.ex
  exact He.free_ok a b (c.fact 95 (f := .free "super") rfl)
theorem isc (S : Sx K mg) : IsC K (clsAt K clss) 2 := by
  obtain ⟨h, a, b, c⟩ := S.ex
  exact isB_ok (by have := c.own; simp only [fc, Bool.and_eq_true] at this; exact this.1)
theorem eq_Code (S : Sx K mg) : EqC K (He.ga K "Code") (He.ma K (He.ga K "Code") "__eq__") := by
  obtain ⟨h, a, b, c⟩ := S.ex
  exact eqB_ok (by have := c.own; simp only [fc, Bool.and_eq_true] at this; exact this.2)
end
end Wk
namespace Wk
open PySem PySem.Spec PyProof.Rows L2 Lc Hd
section
variable {P : Program} {w : World} {K : PySem.W.Frag} {mg : Str → Option Value} {base : Heap}
abbrev At_are_rising (K : PySem.W.Frag) (fd : FuncData) : Prop := FunD K "are_rising" "are_rising" (defArgs s_are_rising) (defBody s_are_rising) (defScope s_are_rising) [] [] (He.fAd K ("are_rising", none)) fd
theorem df_are_rising (S : Sx K mg) : ∃ fd, At_are_rising K fd := by
  obtain ⟨h, a, b, c⟩ := S.ex
  exact c.def_ 3 (d := d_are_rising) rfl
theorem sc_are_rising : FnScope ["items", "one", "other"] ["items"] (defScope s_are_rising) := ⟨rfl, rfl, rfl, by decide +kernel, rfl, by decide +kernel, by decide +kernel⟩
theorem kb_are_rising_1 {fd : FuncData} (F : At_are_rising K fd) : KBn K fd ["items"] 1 [] (ordL [0]) (ordL [0]) := kbn_ord 1 [0] F (fun _ _ _ _ _ _ us ws h1 h2 => match us, ws, h1, h2 with | [_], [], _, _ => rfl)
theorem ok_are_rising (S : Sx K mg) {fd : FuncData} (F : At_are_rising K fd) : FnOk P w K mg base CX0 1 (He.fAd K ("are_rising", none)) fd ["items"] (spF (Tc K) 1 f_are_rising) := by
  refine F.ok sc_are_rising (fun vs H Q E h => h.1) (fun cdv A outer s H vs Q E room h => ?_)
  obtain ⟨Y, h⟩ := fn_start (N := ["items", "one", "other"]) (n := 1) (m := 2) rfl h
  have hu : (A.deeper (envOfC "are_rising" (defScope s_are_rising) s.heap.objs.size (He.fAd K ("are_rising", none)) cdv)).units + 64 < cLine := by have := room.un; omega
  have hu2 : (A.deeper (envOfC "are_rising" (defScope s_are_rising) s.heap.objs.size (He.fAd K ("are_rising", none)) cdv)).units + 130 < cLine := by have := room.un; omega
  have hu0 : (A.deeper (envOfC "are_rising" (defScope s_are_rising) s.heap.objs.size (He.fAd K ("are_rising", none)) cdv)).units < cLine := by omega
  have hu1 : (A.deeper (envOfC "are_rising" (defScope s_are_rising) s.heap.objs.size (He.fAd K ("are_rising", none)) cdv)).units + 1 < cLine := by omega
  have nd := sc_are_rising.nd
  exact ⟨_, (k_cons (k_ret (s_b1 (cr1_all rfl rfl) rfl (n_all S) rfl (o_val (s_new (n_lc [("one", 1), ("other", 2)] rfl nd (i_zip rfl rfl (n_zip S) (s_var (i := 0) rfl (by first | exact Or.inl rfl | exact Or.inr (Or.inl rfl) | exact Or.inr (Or.inr rfl))) (s_sl rfl (o_var (i := 0) rfl (by first | exact Or.inl rfl | exact Or.inr (Or.inl rfl) | exact Or.inr (Or.inr rfl))) (l_so s_int) l_no)) (blkOk_by (by kernel_rfl)) (by decide) (fun _ _ _ _ _ _ => (g_tup rfl rfl (gs_cons (g_name (i := 1) nd rfl (by first | exact Or.inl rfl | exact Or.inr rfl) rfl) (gs_cons (g_name (i := 2) nd rfl (by first | exact Or.inl rfl | exact Or.inr rfl) rfl) gs_nil)))) (fun _ _ _ _ _ _ => ts_nil) (fun _ _ _ _ _ _ => (s_cmp (opr_lt rfl hu0) (o_var (i := 1) rfl (by first | exact Or.inl rfl | exact Or.inr (Or.inl rfl) | exact Or.inr (Or.inr rfl))) (o_var (i := 2) rfl (by first | exact Or.inl rfl | exact Or.inr (Or.inl rfl) | exact Or.inr (Or.inr rfl))))))))))
 k_nil), h⟩
abbrev At_is_word (K : PySem.W.Frag) (fd : FuncData) : Prop := FunD K "is_word" "is_word" (defArgs s_is_word) (defBody s_is_word) (defScope s_is_word) [] [] (He.fAd K ("is_word", none)) fd
theorem df_is_word (S : Sx K mg) : ∃ fd, At_is_word K fd := by
  obtain ⟨h, a, b, c⟩ := S.ex
  exact c.def_ 0 (d := d_is_word) rfl
theorem sc_is_word : FnScope ["thing", "letter"] ["thing"] (defScope s_is_word) := ⟨rfl, rfl, rfl, by decide +kernel, rfl, by decide +kernel, by decide +kernel⟩
theorem kb_is_word_0 {fd : FuncData} (F : At_is_word K fd) : KBn K fd ["thing"] 1 [] (ordL [0]) (ordL [0]) := kbn_ord 1 [0] F (fun _ _ _ _ _ _ us ws h1 h2 => match us, ws, h1, h2 with | [_], [], _, _ => rfl)
theorem ok_is_word (S : Sx K mg) {fd : FuncData} (F : At_is_word K fd) : FnOk P w K mg base CX0 1 (He.fAd K ("is_word", none)) fd ["thing"] (spF (Tc K) 1 f_is_word) := by
  refine F.ok sc_is_word (fun vs H Q E h => h.1) (fun cdv A outer s H vs Q E room h => ?_)
  obtain ⟨Y, h⟩ := fn_start (N := ["thing", "letter"]) (n := 1) (m := 1) rfl h
  have hu : (A.deeper (envOfC "is_word" (defScope s_is_word) s.heap.objs.size (He.fAd K ("is_word", none)) cdv)).units + 64 < cLine := by have := room.un; omega
  have hu2 : (A.deeper (envOfC "is_word" (defScope s_is_word) s.heap.objs.size (He.fAd K ("is_word", none)) cdv)).units + 130 < cLine := by have := room.un; omega
  have hu0 : (A.deeper (envOfC "is_word" (defScope s_is_word) s.heap.objs.size (He.fAd K ("is_word", none)) cdv)).units < cLine := by omega
  have hu1 : (A.deeper (envOfC "is_word" (defScope s_is_word) s.heap.objs.size (He.fAd K ("is_word", none)) cdv)).units + 1 < cLine := by omega
  have nd := sc_is_word.nd
  exact ⟨_, (k_cons (k_ret (s_and (s_isi (n := 2) rfl (isc S) (by decide) rfl (n_isinstance S) (o_var (i := 0) rfl (by first | exact Or.inl rfl | exact Or.inr (Or.inl rfl) | exact Or.inr (Or.inr rfl))) (cls_b rfl (n_str S) rfl rfl)) (s_and (s_chn (opr_le) (opr_le) (o_val s_int) (o_val (s_b1 (cr1_len rfl) rfl (n_len S) rfl (o_var (i := 0) rfl (by first | exact Or.inl rfl | exact Or.inr (Or.inl rfl) | exact Or.inr (Or.inr rfl))))) (o_val (s_gI rfl (n_MOST_LETTERS S)))) (s_one (s_b1 (cr1_all rfl rfl) rfl (n_all S) rfl (o_val (s_new (n_lc [("letter", 1)] rfl nd (i_seq rfl (s_var (i := 0) rfl (by first | exact Or.inl rfl | exact Or.inr (Or.inl rfl) | exact Or.inr (Or.inr rfl))) (fun _ h => pi_list h) (fun _ h => pi_tup h) (fun _ h => pi_str h)) (blkOk_by (by kernel_rfl)) (by decide) (fun _ _ _ _ _ _ => (g_name (i := 1) nd rfl (by first | exact Or.inl rfl | exact Or.inr rfl) rfl)) (fun _ _ _ _ _ _ => ts_nil) (fun _ _ _ _ _ _ => (s_cmp (opr_in rfl hu2) (o_var (i := 1) rfl (by first | exact Or.inl rfl | exact Or.inr (Or.inl rfl) | exact Or.inr (Or.inr rfl))) (o_val (s_gS rfl (n_LETTERS S)))))))))))))
 k_nil), h⟩
abbrev At_are_places (K : PySem.W.Frag) (fd : FuncData) : Prop := FunD K "are_places" "are_places" (defArgs s_are_places) (defBody s_are_places) (defScope s_are_places) [] [] (He.fAd K ("are_places", none)) fd
theorem df_are_places (S : Sx K mg) : ∃ fd, At_are_places K fd := by
  obtain ⟨h, a, b, c⟩ := S.ex
  exact c.def_ 4 (d := d_are_places) rfl
theorem sc_are_places : FnScope ["thing", "one"] ["thing"] (defScope s_are_places) := ⟨rfl, rfl, rfl, by decide +kernel, rfl, by decide +kernel, by decide +kernel⟩
theorem kb_are_places_8 {fd : FuncData} (F : At_are_places K fd) : KBn K fd ["thing"] 1 [] (ordL [0]) (ordL [0]) := kbn_ord 1 [0] F (fun _ _ _ _ _ _ us ws h1 h2 => match us, ws, h1, h2 with | [_], [], _, _ => rfl)
theorem ok_are_places (S : Sx K mg) {fd : FuncData} (F : At_are_places K fd) : FnOk P w K mg base CX0 3 (He.fAd K ("are_places", none)) fd ["thing"] (spF (Tc K) 1 f_are_places) := by
  obtain ⟨fd_are_rising, F_are_rising⟩ := df_are_rising S
  have G_are_rising := ok_are_rising (P := P) (w := w) (base := base) S F_are_rising
  obtain ⟨fd_is_word, F_is_word⟩ := df_is_word S
  have G_is_word := ok_is_word (P := P) (w := w) (base := base) S F_is_word
  refine F.ok sc_are_places (fun vs H Q E h => h.1) (fun cdv A outer s H vs Q E room h => ?_)
  obtain ⟨Y, h⟩ := fn_start (N := ["thing", "one"]) (n := 1) (m := 1) rfl h
  have hu : (A.deeper (envOfC "are_places" (defScope s_are_places) s.heap.objs.size (He.fAd K ("are_places", none)) cdv)).units + 64 < cLine := by have := room.un; omega
  have hu2 : (A.deeper (envOfC "are_places" (defScope s_are_places) s.heap.objs.size (He.fAd K ("are_places", none)) cdv)).units + 130 < cLine := by have := room.un; omega
  have hu0 : (A.deeper (envOfC "are_places" (defScope s_are_places) s.heap.objs.size (He.fAd K ("are_places", none)) cdv)).units < cLine := by omega
  have hu1 : (A.deeper (envOfC "are_places" (defScope s_are_places) s.heap.objs.size (He.fAd K ("are_places", none)) cdv)).units + 1 < cLine := by omega
  have nd := sc_are_places.nd
  exact ⟨_, (k_cons (k_if (b_w (w_or (b_not (b_of (s_isi (n := 2) rfl (isc S) (by decide) rfl (n_isinstance S) (o_var (i := 0) rfl (by first | exact Or.inl rfl | exact Or.inr (Or.inl rfl) | exact Or.inr (Or.inr rfl))) (cls_b rfl (n_tuple S) rfl rfl)))) (w_or1 (b_not (b_chn (opr_le) (opr_le) (o_val s_int) (o_val (s_b1 (cr1_len rfl) rfl (n_len S) rfl (o_var (i := 0) rfl (by first | exact Or.inl rfl | exact Or.inr (Or.inl rfl) | exact Or.inr (Or.inr rfl))))) (o_val (s_gI rfl (n_MOST_PLACES S)))))))) (k_cons (k_ret s_bl)
 k_nil) k_nil)
 (k_cons (k_ret (s_and (s_b1 (cr1_all rfl rfl) rfl (n_all S) rfl (o_val (s_new (n_lc [("one", 1)] rfl nd (i_seq rfl (s_var (i := 0) rfl (by first | exact Or.inl rfl | exact Or.inr (Or.inl rfl) | exact Or.inr (Or.inr rfl))) (fun _ h => pi_list h) (fun _ h => pi_tup h) (fun _ h => pi_str h)) (blkOk_by (by kernel_rfl)) (by decide) (fun _ _ _ _ _ _ => (g_name (i := 1) nd rfl (by first | exact Or.inl rfl | exact Or.inr rfl) rfl)) (fun _ _ _ _ _ _ => ts_nil) (fun _ _ _ _ _ _ => (s_cl (c_cl (n := 1) G_is_word (room.mono (by decide)) rfl (n_is_word S) F_is_word.kp (kb_is_word_0 F_is_word) pa0 grel_ord (len_ord (by decide) rfl) (r_cons (s_var (i := 1) rfl (by first | exact Or.inl rfl | exact Or.inr (Or.inl rfl) | exact Or.inr (Or.inr rfl))) r_nil) kr_nil))))))) (s_one (s_cl (c_cl (n := 1) G_are_rising (room.mono (by decide)) rfl (n_are_rising S) F_are_rising.kp (kb_are_rising_1 F_are_rising) pa0 grel_ord (len_ord (by decide) rfl) (r_cons (s_var (i := 0) rfl (by first | exact Or.inl rfl | exact Or.inr (Or.inl rfl) | exact Or.inr (Or.inr rfl))) r_nil) kr_nil)))))
 k_nil)), h⟩
abbrev At_is_place (K : PySem.W.Frag) (fd : FuncData) : Prop := FunD K "is_place" "is_place" (defArgs s_is_place) (defBody s_is_place) (defScope s_is_place) [] [] (He.fAd K ("is_place", none)) fd
theorem df_is_place (S : Sx K mg) : ∃ fd, At_is_place K fd := by
  obtain ⟨h, a, b, c⟩ := S.ex
  exact c.def_ 5 (d := d_is_place) rfl
theorem sc_is_place : FnScope ["places", "thing"] ["places", "thing"] (defScope s_is_place) := ⟨rfl, rfl, rfl, by decide +kernel, rfl, by decide +kernel, by decide +kernel⟩
theorem kb_is_place_4 {fd : FuncData} (F : At_is_place K fd) : KBn K fd ["places", "thing"] 2 [] (ordL [0, 1]) (ordL [0, 1]) := kbn_ord 2 [0, 1] F (fun _ _ _ _ _ _ us ws h1 h2 => match us, ws, h1, h2 with | [_, _], [], _, _ => rfl)
theorem ok_is_place (S : Sx K mg) {fd : FuncData} (F : At_is_place K fd) : FnOk P w K mg base CX0 1 (He.fAd K ("is_place", none)) fd ["places", "thing"] (spF (Tc K) 2 f_is_place) := by
  refine F.ok sc_is_place (fun vs H Q E h => h.1) (fun cdv A outer s H vs Q E room h => ?_)
  obtain ⟨Y, h⟩ := fn_start (N := ["places", "thing"]) (n := 2) (m := 0) rfl h
  have hu : (A.deeper (envOfC "is_place" (defScope s_is_place) s.heap.objs.size (He.fAd K ("is_place", none)) cdv)).units + 64 < cLine := by have := room.un; omega
  have hu2 : (A.deeper (envOfC "is_place" (defScope s_is_place) s.heap.objs.size (He.fAd K ("is_place", none)) cdv)).units + 130 < cLine := by have := room.un; omega
  have hu0 : (A.deeper (envOfC "is_place" (defScope s_is_place) s.heap.objs.size (He.fAd K ("is_place", none)) cdv)).units < cLine := by omega
  have hu1 : (A.deeper (envOfC "is_place" (defScope s_is_place) s.heap.objs.size (He.fAd K ("is_place", none)) cdv)).units + 1 < cLine := by omega
  have nd := sc_is_place.nd
  exact ⟨_, (k_cons (k_ret (s_and (s_isi (n := 2) rfl (isc S) (by decide) rfl (n_isinstance S) (o_var (i := 1) rfl (by first | exact Or.inl rfl | exact Or.inr (Or.inl rfl) | exact Or.inr (Or.inr rfl))) (cls_b rfl (n_str S) rfl rfl)) (s_one (s_cmp (opr_in rfl hu2) (o_var (i := 1) rfl (by first | exact Or.inl rfl | exact Or.inr (Or.inl rfl) | exact Or.inr (Or.inr rfl))) (o_var (i := 0) rfl (by first | exact Or.inl rfl | exact Or.inr (Or.inl rfl) | exact Or.inr (Or.inr rfl)))))))
 k_nil), h⟩
abbrev At_is_number (K : PySem.W.Frag) (fd : FuncData) : Prop := FunD K "is_number" "is_number" (defArgs s_is_number) (defBody s_is_number) (defScope s_is_number) [] [] (He.fAd K ("is_number", none)) fd
theorem df_is_number (S : Sx K mg) : ∃ fd, At_is_number K fd := by
  obtain ⟨h, a, b, c⟩ := S.ex
  exact c.def_ 1 (d := d_is_number) rfl
theorem sc_is_number : FnScope ["thing"] ["thing"] (defScope s_is_number) := ⟨rfl, rfl, rfl, by decide +kernel, rfl, by decide +kernel, by decide +kernel⟩
theorem kb_is_number_2 {fd : FuncData} (F : At_is_number K fd) : KBn K fd ["thing"] 1 [] (ordL [0]) (ordL [0]) := kbn_ord 1 [0] F (fun _ _ _ _ _ _ us ws h1 h2 => match us, ws, h1, h2 with | [_], [], _, _ => rfl)
theorem ok_is_number (S : Sx K mg) {fd : FuncData} (F : At_is_number K fd) : FnOk P w K mg base CX0 1 (He.fAd K ("is_number", none)) fd ["thing"] (spF (Tc K) 1 f_is_number) := by
  refine F.ok sc_is_number (fun vs H Q E h => h.1) (fun cdv A outer s H vs Q E room h => ?_)
  obtain ⟨Y, h⟩ := fn_start (N := ["thing"]) (n := 1) (m := 0) rfl h
  have hu : (A.deeper (envOfC "is_number" (defScope s_is_number) s.heap.objs.size (He.fAd K ("is_number", none)) cdv)).units + 64 < cLine := by have := room.un; omega
  have hu2 : (A.deeper (envOfC "is_number" (defScope s_is_number) s.heap.objs.size (He.fAd K ("is_number", none)) cdv)).units + 130 < cLine := by have := room.un; omega
  have hu0 : (A.deeper (envOfC "is_number" (defScope s_is_number) s.heap.objs.size (He.fAd K ("is_number", none)) cdv)).units < cLine := by omega
  have hu1 : (A.deeper (envOfC "is_number" (defScope s_is_number) s.heap.objs.size (He.fAd K ("is_number", none)) cdv)).units + 1 < cLine := by omega
  have nd := sc_is_number.nd
  exact ⟨_, (k_cons (k_ret (s_and (s_isi (n := 2) rfl (isc S) (by decide) rfl (n_isinstance S) (o_var (i := 0) rfl (by first | exact Or.inl rfl | exact Or.inr (Or.inl rfl) | exact Or.inr (Or.inr rfl))) (cls_b rfl (n_int S) rfl rfl)) (s_one (s_not (s_isi (n := 2) rfl (isc S) (by decide) rfl (n_isinstance S) (o_var (i := 0) rfl (by first | exact Or.inl rfl | exact Or.inr (Or.inl rfl) | exact Or.inr (Or.inr rfl))) (cls_b rfl (n_bool S) rfl rfl))))))
 k_nil), h⟩
abbrev At_is_among (K : PySem.W.Frag) (fd : FuncData) : Prop := FunD K "is_among" "is_among" (defArgs s_is_among) (defBody s_is_among) (defScope s_is_among) [] [] (He.fAd K ("is_among", none)) fd
theorem df_is_among (S : Sx K mg) : ∃ fd, At_is_among K fd := by
  obtain ⟨h, a, b, c⟩ := S.ex
  exact c.def_ 2 (d := d_is_among) rfl
theorem sc_is_among : FnScope ["thing", "least", "most"] ["thing", "least", "most"] (defScope s_is_among) := ⟨rfl, rfl, rfl, by decide +kernel, rfl, by decide +kernel, by decide +kernel⟩
theorem kb_is_among_3 {fd : FuncData} (F : At_is_among K fd) : KBn K fd ["thing", "least", "most"] 3 [] (ordL [0, 1, 2]) (ordL [0, 1, 2]) := kbn_ord 3 [0, 1, 2] F (fun _ _ _ _ _ _ us ws h1 h2 => match us, ws, h1, h2 with | [_, _, _], [], _, _ => rfl)
theorem ok_is_among (S : Sx K mg) {fd : FuncData} (F : At_is_among K fd) : FnOk P w K mg base CX0 3 (He.fAd K ("is_among", none)) fd ["thing", "least", "most"] (spF (Tc K) 3 f_is_among) := by
  obtain ⟨fd_is_number, F_is_number⟩ := df_is_number S
  have G_is_number := ok_is_number (P := P) (w := w) (base := base) S F_is_number
  refine F.ok sc_is_among (fun vs H Q E h => h.1) (fun cdv A outer s H vs Q E room h => ?_)
  obtain ⟨Y, h⟩ := fn_start (N := ["thing", "least", "most"]) (n := 3) (m := 0) rfl h
  have hu : (A.deeper (envOfC "is_among" (defScope s_is_among) s.heap.objs.size (He.fAd K ("is_among", none)) cdv)).units + 64 < cLine := by have := room.un; omega
  have hu2 : (A.deeper (envOfC "is_among" (defScope s_is_among) s.heap.objs.size (He.fAd K ("is_among", none)) cdv)).units + 130 < cLine := by have := room.un; omega
  have hu0 : (A.deeper (envOfC "is_among" (defScope s_is_among) s.heap.objs.size (He.fAd K ("is_among", none)) cdv)).units < cLine := by omega
  have hu1 : (A.deeper (envOfC "is_among" (defScope s_is_among) s.heap.objs.size (He.fAd K ("is_among", none)) cdv)).units + 1 < cLine := by omega
  have nd := sc_is_among.nd
  exact ⟨_, (k_cons (k_ret (s_and (s_cl (c_cl (n := 1) G_is_number (room.mono (by decide)) rfl (n_is_number S) F_is_number.kp (kb_is_number_2 F_is_number) pa0 grel_ord (len_ord (by decide) rfl) (r_cons (s_var (i := 0) rfl (by first | exact Or.inl rfl | exact Or.inr (Or.inl rfl) | exact Or.inr (Or.inr rfl))) r_nil) kr_nil)) (s_one (s_chn (opr_le) (opr_le) (o_var (i := 1) rfl (by first | exact Or.inl rfl | exact Or.inr (Or.inl rfl) | exact Or.inr (Or.inr rfl))) (o_var (i := 0) rfl (by first | exact Or.inl rfl | exact Or.inr (Or.inl rfl) | exact Or.inr (Or.inr rfl))) (o_var (i := 2) rfl (by first | exact Or.inl rfl | exact Or.inr (Or.inl rfl) | exact Or.inr (Or.inr rfl)))))))
 k_nil), h⟩
abbrev At_is_price (K : PySem.W.Frag) (fd : FuncData) : Prop := FunD K "is_price" "is_price" (defArgs s_is_price) (defBody s_is_price) (defScope s_is_price) [] [] (He.fAd K ("is_price", none)) fd
theorem df_is_price (S : Sx K mg) : ∃ fd, At_is_price K fd := by
  obtain ⟨h, a, b, c⟩ := S.ex
  exact c.def_ 6 (d := d_is_price) rfl
theorem sc_is_price : FnScope ["thing"] ["thing"] (defScope s_is_price) := ⟨rfl, rfl, rfl, by decide +kernel, rfl, by decide +kernel, by decide +kernel⟩
theorem kb_is_price_5 {fd : FuncData} (F : At_is_price K fd) : KBn K fd ["thing"] 1 [] (ordL [0]) (ordL [0]) := kbn_ord 1 [0] F (fun _ _ _ _ _ _ us ws h1 h2 => match us, ws, h1, h2 with | [_], [], _, _ => rfl)
theorem ok_is_price (S : Sx K mg) {fd : FuncData} (F : At_is_price K fd) : FnOk P w K mg base CX0 5 (He.fAd K ("is_price", none)) fd ["thing"] (spF (Tc K) 1 f_is_price) := by
  obtain ⟨fd_is_among, F_is_among⟩ := df_is_among S
  have G_is_among := ok_is_among (P := P) (w := w) (base := base) S F_is_among
  refine F.ok sc_is_price (fun vs H Q E h => h.1) (fun cdv A outer s H vs Q E room h => ?_)
  obtain ⟨Y, h⟩ := fn_start (N := ["thing"]) (n := 1) (m := 0) rfl h
  have hu : (A.deeper (envOfC "is_price" (defScope s_is_price) s.heap.objs.size (He.fAd K ("is_price", none)) cdv)).units + 64 < cLine := by have := room.un; omega
  have hu2 : (A.deeper (envOfC "is_price" (defScope s_is_price) s.heap.objs.size (He.fAd K ("is_price", none)) cdv)).units + 130 < cLine := by have := room.un; omega
  have hu0 : (A.deeper (envOfC "is_price" (defScope s_is_price) s.heap.objs.size (He.fAd K ("is_price", none)) cdv)).units < cLine := by omega
  have hu1 : (A.deeper (envOfC "is_price" (defScope s_is_price) s.heap.objs.size (He.fAd K ("is_price", none)) cdv)).units + 1 < cLine := by omega
  have nd := sc_is_price.nd
  exact ⟨_, (k_cons (k_ret (s_cl (c_cl (n := 3) G_is_among (room.mono (by decide)) rfl (n_is_among S) F_is_among.kp (kb_is_among_3 F_is_among) pa0 grel_ord (len_ord (by decide) rfl) (r_cons (s_var (i := 0) rfl (by first | exact Or.inl rfl | exact Or.inr (Or.inl rfl) | exact Or.inr (Or.inr rfl))) (r_cons s_int (r_cons (s_gI rfl (n_MOST_PRICE S)) r_nil))) kr_nil)))
 k_nil), h⟩
abbrev At_is_jump (K : PySem.W.Frag) (fd : FuncData) : Prop := FunD K "is_jump" "is_jump" (defArgs s_is_jump) (defBody s_is_jump) (defScope s_is_jump) [] [] (He.fAd K ("is_jump", none)) fd
theorem df_is_jump (S : Sx K mg) : ∃ fd, At_is_jump K fd := by
  obtain ⟨h, a, b, c⟩ := S.ex
  exact c.def_ 7 (d := d_is_jump) rfl
theorem sc_is_jump : FnScope ["places", "thing"] ["places", "thing"] (defScope s_is_jump) := ⟨rfl, rfl, rfl, by decide +kernel, rfl, by decide +kernel, by decide +kernel⟩
theorem kb_is_jump_7 {fd : FuncData} (F : At_is_jump K fd) : KBn K fd ["places", "thing"] 2 [] (ordL [0, 1]) (ordL [0, 1]) := kbn_ord 2 [0, 1] F (fun _ _ _ _ _ _ us ws h1 h2 => match us, ws, h1, h2 with | [_, _], [], _, _ => rfl)
theorem ok_is_jump (S : Sx K mg) {fd : FuncData} (F : At_is_jump K fd) : FnOk P w K mg base CX0 7 (He.fAd K ("is_jump", none)) fd ["places", "thing"] (spF (Tc K) 2 f_is_jump) := by
  obtain ⟨fd_is_place, F_is_place⟩ := df_is_place S
  have G_is_place := ok_is_place (P := P) (w := w) (base := base) S F_is_place
  obtain ⟨fd_is_price, F_is_price⟩ := df_is_price S
  have G_is_price := ok_is_price (P := P) (w := w) (base := base) S F_is_price
  refine F.ok sc_is_jump (fun vs H Q E h => h.1) (fun cdv A outer s H vs Q E room h => ?_)
  obtain ⟨Y, h⟩ := fn_start (N := ["places", "thing"]) (n := 2) (m := 0) rfl h
  have hu : (A.deeper (envOfC "is_jump" (defScope s_is_jump) s.heap.objs.size (He.fAd K ("is_jump", none)) cdv)).units + 64 < cLine := by have := room.un; omega
  have hu2 : (A.deeper (envOfC "is_jump" (defScope s_is_jump) s.heap.objs.size (He.fAd K ("is_jump", none)) cdv)).units + 130 < cLine := by have := room.un; omega
  have hu0 : (A.deeper (envOfC "is_jump" (defScope s_is_jump) s.heap.objs.size (He.fAd K ("is_jump", none)) cdv)).units < cLine := by omega
  have hu1 : (A.deeper (envOfC "is_jump" (defScope s_is_jump) s.heap.objs.size (He.fAd K ("is_jump", none)) cdv)).units + 1 < cLine := by omega
  have nd := sc_is_jump.nd
  exact ⟨_, (k_cons (k_if (b_w (w_or (b_not (b_of (s_isi (n := 2) rfl (isc S) (by decide) rfl (n_isinstance S) (o_var (i := 1) rfl (by first | exact Or.inl rfl | exact Or.inr (Or.inl rfl) | exact Or.inr (Or.inr rfl))) (cls_b rfl (n_tuple S) rfl rfl)))) (w_or1 (b_cmp (opr_ne rfl hu) (o_val (s_b1 (cr1_len rfl) rfl (n_len S) rfl (o_var (i := 1) rfl (by first | exact Or.inl rfl | exact Or.inr (Or.inl rfl) | exact Or.inr (Or.inr rfl))))) (o_val s_int))))) (k_cons (k_ret s_bl)
 k_nil) k_nil)
 (k_cons (k_ret (s_and (s_cl (c_cl (n := 2) G_is_place (room.mono (by decide)) rfl (n_is_place S) F_is_place.kp (kb_is_place_4 F_is_place) pa0 grel_ord (len_ord (by decide) rfl) (r_cons (s_var (i := 0) rfl (by first | exact Or.inl rfl | exact Or.inr (Or.inl rfl) | exact Or.inr (Or.inr rfl))) (r_cons (s_ix rfl (o_var (i := 1) rfl (by first | exact Or.inl rfl | exact Or.inr (Or.inl rfl) | exact Or.inr (Or.inr rfl))) (o_val s_int)) r_nil)) kr_nil)) (s_and (s_cl (c_cl (n := 2) G_is_place (room.mono (by decide)) rfl (n_is_place S) F_is_place.kp (kb_is_place_4 F_is_place) pa0 grel_ord (len_ord (by decide) rfl) (r_cons (s_var (i := 0) rfl (by first | exact Or.inl rfl | exact Or.inr (Or.inl rfl) | exact Or.inr (Or.inr rfl))) (r_cons (s_ix rfl (o_var (i := 1) rfl (by first | exact Or.inl rfl | exact Or.inr (Or.inl rfl) | exact Or.inr (Or.inr rfl))) (o_val s_int)) r_nil)) kr_nil)) (s_one (s_cl (c_cl (n := 1) G_is_price (room.mono (by decide)) rfl (n_is_price S) F_is_price.kp (kb_is_price_5 F_is_price) pa0 grel_ord (len_ord (by decide) rfl) (r_cons (s_ix rfl (o_var (i := 1) rfl (by first | exact Or.inl rfl | exact Or.inr (Or.inl rfl) | exact Or.inr (Or.inr rfl))) (o_val s_int)) r_nil) kr_nil))))))
 k_nil)), h⟩
end
end Wk
namespace Wk
open PySem PySem.Spec PyProof.Rows L2 Lc Hd
section
variable {P : Program} {w : World} {K : PySem.W.Frag} {mg : Str → Option Value} {base : Heap}
abbrev At_places_from (K : PySem.W.Frag) (fd : FuncData) : Prop := FunD K "places_from" "places_from" (defArgs s_places_from) (defBody s_places_from) (defScope s_places_from) [] [] (He.fAd K ("places_from", none)) fd
theorem df_places_from (S : Sx K mg) : ∃ fd, At_places_from K fd := by
  obtain ⟨h, a, b, c⟩ := S.ex
  exact c.def_ 8 (d := d_places_from) rfl
theorem sc_places_from : FnScope ["start", "jumps", "barred", "found", "grown", "jump"] ["start", "jumps", "barred"] (defScope s_places_from) := ⟨rfl, rfl, rfl, by decide +kernel, rfl, by decide +kernel, by decide +kernel⟩
theorem kb_places_from_6 {fd : FuncData} (F : At_places_from K fd) : KBn K fd ["start", "jumps", "barred"] 3 [] (ordL [0, 1, 2]) (ordL [0, 1, 2]) := kbn_ord 3 [0, 1, 2] F (fun _ _ _ _ _ _ us ws h1 h2 => match us, ws, h1, h2 with | [_, _, _], [], _, _ => rfl)
theorem ok_places_from (S : Sx K mg) {fd : FuncData} (F : At_places_from K fd) : FnOk P w K mg base CX0 1 (He.fAd K ("places_from", none)) fd ["start", "jumps", "barred"] (spF (Tc K) 3 f_places_from) := by
  refine F.ok sc_places_from (fun vs H Q E h => h.1) (fun cdv A outer s H vs Q E room h => ?_)
  obtain ⟨Y, h⟩ := fn_start (N := ["start", "jumps", "barred", "found", "grown", "jump"]) (n := 3) (m := 3) rfl h
  have hu : (A.deeper (envOfC "places_from" (defScope s_places_from) s.heap.objs.size (He.fAd K ("places_from", none)) cdv)).units + 64 < cLine := by have := room.un; omega
  have hu2 : (A.deeper (envOfC "places_from" (defScope s_places_from) s.heap.objs.size (He.fAd K ("places_from", none)) cdv)).units + 130 < cLine := by have := room.un; omega
  have hu0 : (A.deeper (envOfC "places_from" (defScope s_places_from) s.heap.objs.size (He.fAd K ("places_from", none)) cdv)).units < cLine := by omega
  have hu1 : (A.deeper (envOfC "places_from" (defScope s_places_from) s.heap.objs.size (He.fAd K ("places_from", none)) cdv)).units + 1 < cLine := by omega
  have nd := sc_places_from.nd
  exact ⟨_, (k_cons (k_parT (n := 2) (is := [3, 4]) rfl rfl (p_val (s_lst a_nil) (p_val (s_lst (a_cons (s_var (i := 0) rfl (by first | exact Or.inl rfl | exact Or.inr (Or.inl rfl) | exact Or.inr (Or.inr rfl))) a_nil)) p_nil)) (gn_cons (i := 3) nd rfl (by first | exact Or.inl rfl | exact Or.inr rfl) (gn_cons (i := 4) nd rfl (by first | exact Or.inl rfl | exact Or.inr rfl) gn_nil)))
 (k_cons (k_wh 64 (passes_of rfl) (b_cmp (opr_gt) (o_val (s_b1 (cr1_len rfl) rfl (n_len S) rfl (o_var (i := 4) rfl (by first | exact Or.inl rfl | exact Or.inr (Or.inl rfl) | exact Or.inr (Or.inr rfl))))) (o_val (s_b1 (cr1_len rfl) rfl (n_len S) rfl (o_var (i := 3) rfl (by first | exact Or.inl rfl | exact Or.inr (Or.inl rfl) | exact Or.inr (Or.inr rfl)))))) (k_cons (k_set (i := 3) nd rfl (by first | exact Or.inl rfl | exact Or.inr rfl) (s_var (i := 4) rfl (by first | exact Or.inl rfl | exact Or.inr (Or.inl rfl) | exact Or.inr (Or.inr rfl))))
 (k_cons (k_set (i := 4) nd rfl (by first | exact Or.inl rfl | exact Or.inr rfl) (n_srtSet rfl rfl rfl (n_sorted S) rfl (n_set S) (o_val (s_bin (opr_add rfl) (o_var (i := 3) rfl (by first | exact Or.inl rfl | exact Or.inr (Or.inl rfl) | exact Or.inr (Or.inr rfl))) (o_val (s_new (n_lc [("jump", 5)] rfl nd (i_seq rfl (s_var (i := 1) rfl (by first | exact Or.inl rfl | exact Or.inr (Or.inl rfl) | exact Or.inr (Or.inr rfl))) (fun _ h => pi_list h) (fun _ h => pi_tup h) (fun _ h => pi_str h)) (blkOk_by (by kernel_rfl)) (by decide) (fun _ _ _ _ _ _ => (g_name (i := 5) nd rfl (by first | exact Or.inl rfl | exact Or.inr rfl) rfl)) (fun _ _ _ _ _ _ => (ts_one (b_w (w_and (b_cmp (opr_in rfl hu2) (o_val (s_ix rfl (o_var (i := 5) rfl (by first | exact Or.inl rfl | exact Or.inr (Or.inl rfl) | exact Or.inr (Or.inr rfl))) (o_val s_int))) (o_var (i := 3) rfl (by first | exact Or.inl rfl | exact Or.inr (Or.inl rfl) | exact Or.inr (Or.inr rfl)))) (w_and1 (b_cmp (opr_nin rfl hu2) (o_val (s_ix rfl (o_var (i := 5) rfl (by first | exact Or.inl rfl | exact Or.inr (Or.inl rfl) | exact Or.inr (Or.inr rfl))) (o_val s_int))) (o_var (i := 2) rfl (by first | exact Or.inl rfl | exact Or.inr (Or.inl rfl) | exact Or.inr (Or.inr rfl))))))))) (fun _ _ _ _ _ _ => (s_ix rfl (o_var (i := 5) rfl (by first | exact Or.inl rfl | exact Or.inr (Or.inl rfl) | exact Or.inr (Or.inr rfl))) (o_val s_int))))))))))
 k_nil)))
 (k_cons (k_ret (s_var (i := 3) rfl (by first | exact Or.inl rfl | exact Or.inr (Or.inl rfl) | exact Or.inr (Or.inr rfl))))
 k_nil))), h⟩
abbrev At_Code___init__ (K : PySem.W.Frag) (fd : FuncData) : Prop := FunD K "__init__" "Code.__init__" (defArgs s_Code___init__) (defBody s_Code___init__) (defScope s_Code___init__) (d_Code___init__.dvs K) [] (He.fAd K ("Code", some "__init__")) fd
theorem df_Code___init__ (S : Sx K mg) : ∃ fd, At_Code___init__ K fd := by
  obtain ⟨h, a, b, c⟩ := S.ex
  exact c.def_ 53 (d := d_Code___init__) rfl
theorem sc_Code___init__ : FnScope ["self", "places", "door", "jumps", "number", "jump"] ["self", "places", "door", "jumps"] (defScope s_Code___init__) := ⟨rfl, rfl, rfl, by decide +kernel, rfl, by decide +kernel, by decide +kernel⟩
theorem kb_Code___init___9 {fd : FuncData} (F : At_Code___init__ K fd) : KBn K fd ["self", "places", "door", "jumps"] 4 [] (ordL [0, 1, 2, 3]) (ordL [0, 1, 2, 3]) := kbn_ordD 4 [0, 1, 2, 3] F (by unfold He.DefD.dvs; simp [d_Code___init__]) (fun _ _ _ _ _ _ _ us its ws h1 h0 h2 => match us, its, ws, h1, h0, h2 with | [_, _, _, _], [_], [], _, _, _ => ⟨_, rfl, rfl⟩)
theorem kb_Code___init___24 {fd : FuncData} (F : At_Code___init__ K fd) : KBn K fd ["self", "places", "door", "jumps"] 1 ["jumps", "door", "places"] (ordL [0, 3, 2, 1]) (ordL [0, 3, 2, 1]) := kbn_ordD 1 [0, 3, 2, 1] F (by unfold He.DefD.dvs; simp [d_Code___init__]) (fun _ _ _ _ _ _ _ us its ws h1 h0 h2 => match us, its, ws, h1, h0, h2 with | [_], [_], [_, _, _], _, _, _ => ⟨_, rfl, rfl⟩)
theorem ok_Code___init__ (S : Sx K mg) {fd : FuncData} (F : At_Code___init__ K fd) : FnOk P w K mg base CX0 9 (He.fAd K ("Code", some "__init__")) fd ["self", "places", "door", "jumps"] (spF (Tc K) 4 f_Code___init__) := by
  obtain ⟨fd_are_places, F_are_places⟩ := df_are_places S
  have G_are_places := ok_are_places (P := P) (w := w) (base := base) S F_are_places
  obtain ⟨fd_is_jump, F_is_jump⟩ := df_is_jump S
  have G_is_jump := ok_is_jump (P := P) (w := w) (base := base) S F_is_jump
  obtain ⟨fd_is_place, F_is_place⟩ := df_is_place S
  have G_is_place := ok_is_place (P := P) (w := w) (base := base) S F_is_place
  obtain ⟨fd_places_from, F_places_from⟩ := df_places_from S
  have G_places_from := ok_places_from (P := P) (w := w) (base := base) S F_places_from
  refine F.ok sc_Code___init__ (fun vs H Q E h => h.1) (fun cdv A outer s H vs Q E room h => ?_)
  obtain ⟨Y, h⟩ := fn_start (N := ["self", "places", "door", "jumps", "number", "jump"]) (n := 4) (m := 2) rfl h
  have hu : (A.deeper (envOfC "Code.__init__" (defScope s_Code___init__) s.heap.objs.size (He.fAd K ("Code", some "__init__")) cdv)).units + 64 < cLine := by have := room.un; omega
  have hu2 : (A.deeper (envOfC "Code.__init__" (defScope s_Code___init__) s.heap.objs.size (He.fAd K ("Code", some "__init__")) cdv)).units + 130 < cLine := by have := room.un; omega
  have hu0 : (A.deeper (envOfC "Code.__init__" (defScope s_Code___init__) s.heap.objs.size (He.fAd K ("Code", some "__init__")) cdv)).units < cLine := by omega
  have hu1 : (A.deeper (envOfC "Code.__init__" (defScope s_Code___init__) s.heap.objs.size (He.fAd K ("Code", some "__init__")) cdv)).units + 1 < cLine := by omega
  have nd := sc_Code___init__.nd
  exact ⟨_, (k_cons (k_if (b_not (b_of (s_cl (c_cl (n := 1) G_are_places (room.mono (by decide)) rfl (n_are_places S) F_are_places.kp (kb_are_places_8 F_are_places) pa0 grel_ord (len_ord (by decide) rfl) (r_cons (s_var (i := 1) rfl (by first | exact Or.inl rfl | exact Or.inr (Or.inl rfl) | exact Or.inr (Or.inr rfl))) r_nil) kr_nil)))) k_noB k_nil)
 (k_cons (k_if (b_not (b_of (s_cl (c_cl (n := 2) G_is_place (room.mono (by decide)) rfl (n_is_place S) F_is_place.kp (kb_is_place_4 F_is_place) pa0 grel_ord (len_ord (by decide) rfl) (r_cons (s_var (i := 1) rfl (by first | exact Or.inl rfl | exact Or.inr (Or.inl rfl) | exact Or.inr (Or.inr rfl))) (r_cons (s_var (i := 2) rfl (by first | exact Or.inl rfl | exact Or.inr (Or.inl rfl) | exact Or.inr (Or.inr rfl))) r_nil)) kr_nil)))) k_noB k_nil)
 (k_cons (k_if (b_w (w_or (b_not (b_of (s_isiT (n := 2) rfl (isc S) (by decide) (by decide) rfl (n_isinstance S) (o_var (i := 3) rfl (by first | exact Or.inl rfl | exact Or.inr (Or.inl rfl) | exact Or.inr (Or.inr rfl))) (clss_cons (cls_b rfl (n_list S) rfl rfl) (clss_cons (cls_b rfl (n_tuple S) rfl rfl) clss_nil))))) (w_or1 (b_cmp (opr_gt) (o_val (s_b1 (cr1_len rfl) rfl (n_len S) rfl (o_var (i := 3) rfl (by first | exact Or.inl rfl | exact Or.inr (Or.inl rfl) | exact Or.inr (Or.inr rfl))))) (o_val (s_gI rfl (n_MOST_JUMPS S))))))) k_noB k_nil)
 (k_cons (k_for (passes_of rfl) rfl (i_en rfl rfl (n_enumerate S) (s_var (i := 3) rfl (by first | exact Or.inl rfl | exact Or.inr (Or.inl rfl) | exact Or.inr (Or.inr rfl)))) (g_tup rfl rfl (gs_cons (g_name (i := 4) nd rfl (by first | exact Or.inl rfl | exact Or.inr rfl) rfl) (gs_cons (g_name (i := 5) nd rfl (by first | exact Or.inl rfl | exact Or.inr rfl) rfl) gs_nil))) (k_cons (k_if (b_not (b_of (s_cl (c_cl (n := 2) G_is_jump (room.mono (by decide)) rfl (n_is_jump S) F_is_jump.kp (kb_is_jump_7 F_is_jump) pa0 grel_ord (len_ord (by decide) rfl) (r_cons (s_var (i := 1) rfl (by first | exact Or.inl rfl | exact Or.inr (Or.inl rfl) | exact Or.inr (Or.inr rfl))) (r_cons (s_var (i := 5) rfl (by first | exact Or.inl rfl | exact Or.inr (Or.inl rfl) | exact Or.inr (Or.inr rfl))) r_nil)) kr_nil)))) k_noB k_nil)
 k_nil))
 (k_cons (k_if (b_cmp (opr_lt rfl hu0) (o_val (s_b1 (cr1_len rfl) rfl (n_len S) rfl (o_val (s_cl (c_cl (n := 3) G_places_from (room.mono (by decide)) rfl (n_places_from S) F_places_from.kp (kb_places_from_6 F_places_from) pa0 grel_ord (len_ord (by decide) rfl) (r_cons (s_var (i := 2) rfl (by first | exact Or.inl rfl | exact Or.inr (Or.inl rfl) | exact Or.inr (Or.inr rfl))) (r_cons (s_var (i := 3) rfl (by first | exact Or.inl rfl | exact Or.inr (Or.inl rfl) | exact Or.inr (Or.inr rfl))) (r_cons (s_tup a_nil) r_nil))) kr_nil))))) (o_val (s_b1 (cr1_len rfl) rfl (n_len S) rfl (o_var (i := 1) rfl (by first | exact Or.inl rfl | exact Or.inr (Or.inl rfl) | exact Or.inr (Or.inr rfl)))))) k_noB k_nil)
 (k_cons (k_fld (c := 0) (i := 0) rfl (cls_Code S) (na_Code_places S) rfl (by first | exact Or.inl rfl | exact Or.inr (Or.inl rfl) | exact Or.inr (Or.inr rfl)) (s_var (i := 1) rfl (by first | exact Or.inl rfl | exact Or.inr (Or.inl rfl) | exact Or.inr (Or.inr rfl))))
 (k_cons (k_fld (c := 0) (i := 0) rfl (cls_Code S) (na_Code_door S) rfl (by first | exact Or.inl rfl | exact Or.inr (Or.inl rfl) | exact Or.inr (Or.inr rfl)) (s_var (i := 2) rfl (by first | exact Or.inl rfl | exact Or.inr (Or.inl rfl) | exact Or.inr (Or.inr rfl))))
 (k_cons (k_fld (c := 0) (i := 0) rfl (cls_Code S) (na_Code_jumps S) rfl (by first | exact Or.inl rfl | exact Or.inr (Or.inl rfl) | exact Or.inr (Or.inr rfl)) (s_t1 (cr1_tuple rfl) rfl (n_tuple S) rfl (o_var (i := 3) rfl (by first | exact Or.inl rfl | exact Or.inr (Or.inl rfl) | exact Or.inr (Or.inr rfl)))))
 k_nil)))))))), h⟩
abbrev At__law_begun (K : PySem.W.Frag) (fd : FuncData) : Prop := FunD K "_law_begun" "_law_begun" (defArgs s__law_begun) (defBody s__law_begun) (defScope s__law_begun) [] [] (He.fAd K ("_law_begun", none)) fd
theorem df__law_begun (S : Sx K mg) : ∃ fd, At__law_begun K fd := by
  obtain ⟨h, a, b, c⟩ := S.ex
  exact c.def_ 47 (d := d__law_begun) rfl
theorem sc__law_begun : FnScope ["script", "cell"] ["script"] (defScope s__law_begun) := ⟨rfl, rfl, rfl, by decide +kernel, rfl, by decide +kernel, by decide +kernel⟩
theorem kb__law_begun_66 {fd : FuncData} (F : At__law_begun K fd) : KBn K fd ["script"] 1 [] (ordL [0]) (ordL [0]) := kbn_ord 1 [0] F (fun _ _ _ _ _ _ us ws h1 h2 => match us, ws, h1, h2 with | [_], [], _, _ => rfl)
theorem ok__law_begun (S : Sx K mg) {fd : FuncData} (F : At__law_begun K fd) : FnOk P w K mg base CX0 1 (He.fAd K ("_law_begun", none)) fd ["script"] (spF (Tc K) 1 f__law_begun) := by
  refine F.ok sc__law_begun (fun vs H Q E h => h.1) (fun cdv A outer s H vs Q E room h => ?_)
  obtain ⟨Y, h⟩ := fn_start (N := ["script", "cell"]) (n := 1) (m := 1) rfl h
  have hu : (A.deeper (envOfC "_law_begun" (defScope s__law_begun) s.heap.objs.size (He.fAd K ("_law_begun", none)) cdv)).units + 64 < cLine := by have := room.un; omega
  have hu2 : (A.deeper (envOfC "_law_begun" (defScope s__law_begun) s.heap.objs.size (He.fAd K ("_law_begun", none)) cdv)).units + 130 < cLine := by have := room.un; omega
  have hu0 : (A.deeper (envOfC "_law_begun" (defScope s__law_begun) s.heap.objs.size (He.fAd K ("_law_begun", none)) cdv)).units < cLine := by omega
  have hu1 : (A.deeper (envOfC "_law_begun" (defScope s__law_begun) s.heap.objs.size (He.fAd K ("_law_begun", none)) cdv)).units + 1 < cLine := by omega
  have nd := sc__law_begun.nd
  exact ⟨_, (k_cons (k_retF (n_om (fun _ => (s_t1 (cr1_list rfl rfl) rfl (n_list S) rfl (o_var (i := 0) rfl (by first | exact Or.inl rfl | exact Or.inr (Or.inl rfl) | exact Or.inr (Or.inr rfl))))) (fun _ => (n_lc [("cell", 1)] rfl nd (i_seq rfl (s_var (i := 0) rfl (by first | exact Or.inl rfl | exact Or.inr (Or.inl rfl) | exact Or.inr (Or.inr rfl))) (fun _ h => pi_list h) (fun _ h => pi_tup h) (fun _ h => pi_str h)) (blkOk_by (by kernel_rfl)) (by decide) (fun _ _ _ _ _ _ => (g_name (i := 1) nd rfl (by first | exact Or.inl rfl | exact Or.inr rfl) rfl)) (fun _ _ _ _ _ _ => (ts_one (b_cmp (opr_ge) (o_var (i := 1) rfl (by first | exact Or.inl rfl | exact Or.inr (Or.inl rfl) | exact Or.inr (Or.inr rfl))) (o_val (s_bin (opr_pow) (o_val s_int) (o_val s_int)))))) (fun _ _ _ _ _ _ => (s_var (i := 1) rfl (by first | exact Or.inl rfl | exact Or.inr (Or.inl rfl) | exact Or.inr (Or.inr rfl))))))))
 k_nil), h⟩
abbrev At_Code___eq__ (K : PySem.W.Frag) (fd : FuncData) : Prop := FunD K "__eq__" "Code.__eq__" (defArgs s_Code___eq__) (defBody s_Code___eq__) (defScope s_Code___eq__) [] [] (He.fAd K ("Code", some "__eq__")) fd
theorem df_Code___eq__ (S : Sx K mg) : ∃ fd, At_Code___eq__ K fd := by
  obtain ⟨h, a, b, c⟩ := S.ex
  exact c.def_ 55 (d := d_Code___eq__) rfl
theorem sc_Code___eq__ : FnScope ["self", "other"] ["self", "other"] (defScope s_Code___eq__) := ⟨rfl, rfl, rfl, by decide +kernel, rfl, by decide +kernel, by decide +kernel⟩
theorem ok_Code___eq__ (S : Sx K mg) {fd : FuncData} (F : At_Code___eq__ K fd) : FnOk P w K mg base CX0 1 (He.fAd K ("Code", some "__eq__")) fd ["self", "other"] (spF (Tc K) 2 f_Code___eq__) := by
  refine F.ok sc_Code___eq__ (fun vs H Q E h => h.1) (fun cdv A outer s H vs Q E room h => ?_)
  obtain ⟨Y, h⟩ := fn_start (N := ["self", "other"]) (n := 2) (m := 0) rfl h
  have hu : (A.deeper (envOfC "Code.__eq__" (defScope s_Code___eq__) s.heap.objs.size (He.fAd K ("Code", some "__eq__")) cdv)).units + 64 < cLine := by have := room.un; omega
  have hu2 : (A.deeper (envOfC "Code.__eq__" (defScope s_Code___eq__) s.heap.objs.size (He.fAd K ("Code", some "__eq__")) cdv)).units + 130 < cLine := by have := room.un; omega
  have hu0 : (A.deeper (envOfC "Code.__eq__" (defScope s_Code___eq__) s.heap.objs.size (He.fAd K ("Code", some "__eq__")) cdv)).units < cLine := by omega
  have hu1 : (A.deeper (envOfC "Code.__eq__" (defScope s_Code___eq__) s.heap.objs.size (He.fAd K ("Code", some "__eq__")) cdv)).units + 1 < cLine := by omega
  have nd := sc_Code___eq__.nd
  exact ⟨_, (k_cons (k_if (b_not (b_of (s_isi (n := 2) rfl (isc S) (by decide) rfl (n_isinstance S) (o_var (i := 1) rfl (by first | exact Or.inl rfl | exact Or.inr (Or.inl rfl) | exact Or.inr (Or.inr rfl))) (cls_i (T := Tc K) (c := 0) rfl (n_Code S))))) (k_cons (k_ret s_bl)
 k_nil) k_nil)
 (k_cons (k_ret (s_cmp (opr_eq rfl hu) (o_val (s_tup (a_cons (s_fld (c := 0) rfl (cls_Code S) (na_Code_places S) (o_var (i := 0) rfl (by first | exact Or.inl rfl | exact Or.inr (Or.inl rfl) | exact Or.inr (Or.inr rfl)))) (a_cons (s_fld (c := 0) rfl (cls_Code S) (na_Code_door S) (o_var (i := 0) rfl (by first | exact Or.inl rfl | exact Or.inr (Or.inl rfl) | exact Or.inr (Or.inr rfl)))) (a_cons (s_fld (c := 0) rfl (cls_Code S) (na_Code_jumps S) (o_var (i := 0) rfl (by first | exact Or.inl rfl | exact Or.inr (Or.inl rfl) | exact Or.inr (Or.inr rfl)))) a_nil))))) (o_val (s_tup (a_cons (s_fld (c := 0) rfl (cls_Code S) (na_Code_places S) (o_var (i := 1) rfl (by first | exact Or.inl rfl | exact Or.inr (Or.inl rfl) | exact Or.inr (Or.inr rfl)))) (a_cons (s_fld (c := 0) rfl (cls_Code S) (na_Code_door S) (o_var (i := 1) rfl (by first | exact Or.inl rfl | exact Or.inr (Or.inl rfl) | exact Or.inr (Or.inr rfl)))) (a_cons (s_fld (c := 0) rfl (cls_Code S) (na_Code_jumps S) (o_var (i := 1) rfl (by first | exact Or.inl rfl | exact Or.inr (Or.inl rfl) | exact Or.inr (Or.inr rfl)))) a_nil)))))))
 k_nil)), h⟩
theorem bd_Code___eq__ {fd : FuncData} (F : At_Code___eq__ K fd) : Binds K fd ["self", "other"] [] := F.bindsN fun _ _ _ _ _ _ us hl => match us, hl with | [_, _], _ => rfl
abbrev At_Code_need_jump (K : PySem.W.Frag) (fd : FuncData) : Prop := FunD K "need_jump" "Code.need_jump" (defArgs s_Code_need_jump) (defBody s_Code_need_jump) (defScope s_Code_need_jump) [] [] (He.fAd K ("Code", some "need_jump")) fd
theorem df_Code_need_jump (S : Sx K mg) : ∃ fd, At_Code_need_jump K fd := by
  obtain ⟨h, a, b, c⟩ := S.ex
  exact c.def_ 57 (d := d_Code_need_jump) rfl
theorem sc_Code_need_jump : FnScope ["self", "number"] ["self", "number"] (defScope s_Code_need_jump) := ⟨rfl, rfl, rfl, by decide +kernel, rfl, by decide +kernel, by decide +kernel⟩
theorem kb_Code_need_jump_10 {fd : FuncData} (F : At_Code_need_jump K fd) : KBn K fd ["self", "number"] 2 [] (ordL [0, 1]) (ordL [0, 1]) := kbn_ord 2 [0, 1] F (fun _ _ _ _ _ _ us ws h1 h2 => match us, ws, h1, h2 with | [_, _], [], _, _ => rfl)
theorem ok_Code_need_jump (S : Sx K mg) {fd : FuncData} (F : At_Code_need_jump K fd) : FnOk P w K mg base CX0 5 (He.fAd K ("Code", some "need_jump")) fd ["self", "number"] (spF (Tc K) 2 f_Code_need_jump) := by
  obtain ⟨fd_is_among, F_is_among⟩ := df_is_among S
  have G_is_among := ok_is_among (P := P) (w := w) (base := base) S F_is_among
  refine F.ok sc_Code_need_jump (fun vs H Q E h => h.1) (fun cdv A outer s H vs Q E room h => ?_)
  obtain ⟨Y, h⟩ := fn_start (N := ["self", "number"]) (n := 2) (m := 0) rfl h
  have hu : (A.deeper (envOfC "Code.need_jump" (defScope s_Code_need_jump) s.heap.objs.size (He.fAd K ("Code", some "need_jump")) cdv)).units + 64 < cLine := by have := room.un; omega
  have hu2 : (A.deeper (envOfC "Code.need_jump" (defScope s_Code_need_jump) s.heap.objs.size (He.fAd K ("Code", some "need_jump")) cdv)).units + 130 < cLine := by have := room.un; omega
  have hu0 : (A.deeper (envOfC "Code.need_jump" (defScope s_Code_need_jump) s.heap.objs.size (He.fAd K ("Code", some "need_jump")) cdv)).units < cLine := by omega
  have hu1 : (A.deeper (envOfC "Code.need_jump" (defScope s_Code_need_jump) s.heap.objs.size (He.fAd K ("Code", some "need_jump")) cdv)).units + 1 < cLine := by omega
  have nd := sc_Code_need_jump.nd
  exact ⟨_, (k_cons (k_if (b_not (b_of (s_cl (c_cl (n := 3) G_is_among (room.mono (by decide)) rfl (n_is_among S) F_is_among.kp (kb_is_among_3 F_is_among) pa0 grel_ord (len_ord (by decide) rfl) (r_cons (s_var (i := 1) rfl (by first | exact Or.inl rfl | exact Or.inr (Or.inl rfl) | exact Or.inr (Or.inr rfl))) (r_cons s_int (r_cons (s_bin (opr_sub) (o_val (s_b1 (cr1_len rfl) rfl (n_len S) rfl (o_val (s_fld (c := 0) rfl (cls_Code S) (na_Code_jumps S) (o_var (i := 0) rfl (by first | exact Or.inl rfl | exact Or.inr (Or.inl rfl) | exact Or.inr (Or.inr rfl))))))) (o_val s_int)) r_nil))) kr_nil)))) k_noB k_nil)
 k_nil), h⟩
abbrev At_Code_priced (K : PySem.W.Frag) (fd : FuncData) : Prop := FunD K "priced" "Code.priced" (defArgs s_Code_priced) (defBody s_Code_priced) (defScope s_Code_priced) [] [] (He.fAd K ("Code", some "priced")) fd
theorem df_Code_priced (S : Sx K mg) : ∃ fd, At_Code_priced K fd := by
  obtain ⟨h, a, b, c⟩ := S.ex
  exact c.def_ 59 (d := d_Code_priced) rfl
theorem sc_Code_priced : FnScope ["self", "number", "price", "jump"] ["self", "number", "price"] (defScope s_Code_priced) := ⟨rfl, rfl, rfl, by decide +kernel, rfl, by decide +kernel, by decide +kernel⟩
theorem kb_Code_priced_22 {fd : FuncData} (F : At_Code_priced K fd) : KBn K fd ["self", "number", "price"] 1 ["price", "number"] (ordL [0, 2, 1]) (ordL [0, 2, 1]) := kbn_ord 1 [0, 2, 1] F (fun _ _ _ _ _ _ us ws h1 h2 => match us, ws, h1, h2 with | [_], [_, _], _, _ => rfl)
theorem ok_Code_priced (S : Sx K mg) {fd : FuncData} (F : At_Code_priced K fd) : FnOk P w K mg base CX0 11 (He.fAd K ("Code", some "priced")) fd ["self", "number", "price"] (spF (Tc K) 3 f_Code_priced) := by
  obtain ⟨fd_Code___init__, F_Code___init__⟩ := df_Code___init__ S
  have G_Code___init__ := ok_Code___init__ (P := P) (w := w) (base := base) S F_Code___init__
  obtain ⟨fd_Code_need_jump, F_Code_need_jump⟩ := df_Code_need_jump S
  have G_Code_need_jump := ok_Code_need_jump (P := P) (w := w) (base := base) S F_Code_need_jump
  obtain ⟨fd_is_price, F_is_price⟩ := df_is_price S
  have G_is_price := ok_is_price (P := P) (w := w) (base := base) S F_is_price
  refine F.ok sc_Code_priced (fun vs H Q E h => h.1) (fun cdv A outer s H vs Q E room h => ?_)
  obtain ⟨Y, h⟩ := fn_start (N := ["self", "number", "price", "jump"]) (n := 3) (m := 1) rfl h
  have hu : (A.deeper (envOfC "Code.priced" (defScope s_Code_priced) s.heap.objs.size (He.fAd K ("Code", some "priced")) cdv)).units + 64 < cLine := by have := room.un; omega
  have hu2 : (A.deeper (envOfC "Code.priced" (defScope s_Code_priced) s.heap.objs.size (He.fAd K ("Code", some "priced")) cdv)).units + 130 < cLine := by have := room.un; omega
  have hu0 : (A.deeper (envOfC "Code.priced" (defScope s_Code_priced) s.heap.objs.size (He.fAd K ("Code", some "priced")) cdv)).units < cLine := by omega
  have hu1 : (A.deeper (envOfC "Code.priced" (defScope s_Code_priced) s.heap.objs.size (He.fAd K ("Code", some "priced")) cdv)).units + 1 < cLine := by omega
  have nd := sc_Code_priced.nd
  exact ⟨_, (k_cons (k_ex (s_cl (c_mt (c := 0) (n := 1) rfl (a1_v (s_var (i := 0) rfl (by first | exact Or.inl rfl | exact Or.inr (Or.inl rfl) | exact Or.inr (Or.inr rfl)))) (cls_Code S) (me_Code_need_jump S) G_Code_need_jump (room.mono (by decide)) (kb_Code_need_jump_10 F_Code_need_jump) pa0 grel_ord (len_ord (by decide) rfl) (r_cons (s_var (i := 1) rfl (by first | exact Or.inl rfl | exact Or.inr (Or.inl rfl) | exact Or.inr (Or.inr rfl))) r_nil) kr_nil)))
 (k_cons (k_if (b_not (b_of (s_cl (c_cl (n := 1) G_is_price (room.mono (by decide)) rfl (n_is_price S) F_is_price.kp (kb_is_price_5 F_is_price) pa0 grel_ord (len_ord (by decide) rfl) (r_cons (s_var (i := 2) rfl (by first | exact Or.inl rfl | exact Or.inr (Or.inl rfl) | exact Or.inr (Or.inr rfl))) r_nil) kr_nil)))) k_noB k_nil)
 (k_cons (k_set (i := 3) nd rfl (by first | exact Or.inl rfl | exact Or.inr rfl) (s_tup (a_star rfl (o_val (s_sl rfl (o_val (s_ix rfl (o_val (s_fld (c := 0) rfl (cls_Code S) (na_Code_jumps S) (o_var (i := 0) rfl (by first | exact Or.inl rfl | exact Or.inr (Or.inl rfl) | exact Or.inr (Or.inr rfl))))) (o_var (i := 1) rfl (by first | exact Or.inl rfl | exact Or.inr (Or.inl rfl) | exact Or.inr (Or.inr rfl))))) l_no (l_so s_int))) (a_cons (s_var (i := 2) rfl (by first | exact Or.inl rfl | exact Or.inr (Or.inl rfl) | exact Or.inr (Or.inr rfl))) a_nil))))
 (k_cons (k_ret (s_new (n_mk (T := Tc K) (c := 0) (n := 3) (mk_Code S) G_Code___init__ (room.mono (by decide)) rfl (n_Code S) (kb_Code___init___9 F_Code___init__) pa0 grel_ord (len_ord (by decide) rfl) (r_cons (s_fld (c := 0) rfl (cls_Code S) (na_Code_places S) (o_var (i := 0) rfl (by first | exact Or.inl rfl | exact Or.inr (Or.inl rfl) | exact Or.inr (Or.inr rfl)))) (r_cons (s_fld (c := 0) rfl (cls_Code S) (na_Code_door S) (o_var (i := 0) rfl (by first | exact Or.inl rfl | exact Or.inr (Or.inl rfl) | exact Or.inr (Or.inr rfl)))) (r_cons (s_tup (a_star rfl (o_val (s_sl rfl (o_val (s_fld (c := 0) rfl (cls_Code S) (na_Code_jumps S) (o_var (i := 0) rfl (by first | exact Or.inl rfl | exact Or.inr (Or.inl rfl) | exact Or.inr (Or.inr rfl))))) l_no (l_so (s_var (i := 1) rfl (by first | exact Or.inl rfl | exact Or.inr (Or.inl rfl) | exact Or.inr (Or.inr rfl)))))) (a_cons (s_var (i := 3) rfl (by first | exact Or.inl rfl | exact Or.inr (Or.inl rfl) | exact Or.inr (Or.inr rfl))) (a_star rfl (o_val (s_sl rfl (o_val (s_fld (c := 0) rfl (cls_Code S) (na_Code_jumps S) (o_var (i := 0) rfl (by first | exact Or.inl rfl | exact Or.inr (Or.inl rfl) | exact Or.inr (Or.inr rfl))))) (l_so (s_bin (opr_add rfl) (o_var (i := 1) rfl (by first | exact Or.inl rfl | exact Or.inr (Or.inl rfl) | exact Or.inr (Or.inr rfl))) (o_val s_int))) l_no)) a_nil)))) r_nil))) kr_nil)))
 k_nil)))), h⟩
abbrev At_Code_with_jump (K : PySem.W.Frag) (fd : FuncData) : Prop := FunD K "with_jump" "Code.with_jump" (defArgs s_Code_with_jump) (defBody s_Code_with_jump) (defScope s_Code_with_jump) [] [] (He.fAd K ("Code", some "with_jump")) fd
theorem df_Code_with_jump (S : Sx K mg) : ∃ fd, At_Code_with_jump K fd := by
  obtain ⟨h, a, b, c⟩ := S.ex
  exact c.def_ 56 (d := d_Code_with_jump) rfl
theorem sc_Code_with_jump : FnScope ["self", "jump"] ["self", "jump"] (defScope s_Code_with_jump) := ⟨rfl, rfl, rfl, by decide +kernel, rfl, by decide +kernel, by decide +kernel⟩
theorem kb_Code_with_jump_23 {fd : FuncData} (F : At_Code_with_jump K fd) : KBn K fd ["self", "jump"] 1 ["jump"] (ordL [0, 1]) (ordL [0, 1]) := kbn_ord 1 [0, 1] F (fun _ _ _ _ _ _ us ws h1 h2 => match us, ws, h1, h2 with | [_], [_], _, _ => rfl)
theorem ok_Code_with_jump (S : Sx K mg) {fd : FuncData} (F : At_Code_with_jump K fd) : FnOk P w K mg base CX0 11 (He.fAd K ("Code", some "with_jump")) fd ["self", "jump"] (spF (Tc K) 2 f_Code_with_jump) := by
  obtain ⟨fd_Code___init__, F_Code___init__⟩ := df_Code___init__ S
  have G_Code___init__ := ok_Code___init__ (P := P) (w := w) (base := base) S F_Code___init__
  obtain ⟨fd_is_jump, F_is_jump⟩ := df_is_jump S
  have G_is_jump := ok_is_jump (P := P) (w := w) (base := base) S F_is_jump
  refine F.ok sc_Code_with_jump (fun vs H Q E h => h.1) (fun cdv A outer s H vs Q E room h => ?_)
  obtain ⟨Y, h⟩ := fn_start (N := ["self", "jump"]) (n := 2) (m := 0) rfl h
  have hu : (A.deeper (envOfC "Code.with_jump" (defScope s_Code_with_jump) s.heap.objs.size (He.fAd K ("Code", some "with_jump")) cdv)).units + 64 < cLine := by have := room.un; omega
  have hu2 : (A.deeper (envOfC "Code.with_jump" (defScope s_Code_with_jump) s.heap.objs.size (He.fAd K ("Code", some "with_jump")) cdv)).units + 130 < cLine := by have := room.un; omega
  have hu0 : (A.deeper (envOfC "Code.with_jump" (defScope s_Code_with_jump) s.heap.objs.size (He.fAd K ("Code", some "with_jump")) cdv)).units < cLine := by omega
  have hu1 : (A.deeper (envOfC "Code.with_jump" (defScope s_Code_with_jump) s.heap.objs.size (He.fAd K ("Code", some "with_jump")) cdv)).units + 1 < cLine := by omega
  have nd := sc_Code_with_jump.nd
  exact ⟨_, (k_cons (k_if (b_not (b_of (s_cl (c_cl (n := 2) G_is_jump (room.mono (by decide)) rfl (n_is_jump S) F_is_jump.kp (kb_is_jump_7 F_is_jump) pa0 grel_ord (len_ord (by decide) rfl) (r_cons (s_fld (c := 0) rfl (cls_Code S) (na_Code_places S) (o_var (i := 0) rfl (by first | exact Or.inl rfl | exact Or.inr (Or.inl rfl) | exact Or.inr (Or.inr rfl)))) (r_cons (s_var (i := 1) rfl (by first | exact Or.inl rfl | exact Or.inr (Or.inl rfl) | exact Or.inr (Or.inr rfl))) r_nil)) kr_nil)))) k_noB k_nil)
 (k_cons (k_if (b_cmp (opr_eq rfl hu) (o_val (s_b1 (cr1_len rfl) rfl (n_len S) rfl (o_val (s_fld (c := 0) rfl (cls_Code S) (na_Code_jumps S) (o_var (i := 0) rfl (by first | exact Or.inl rfl | exact Or.inr (Or.inl rfl) | exact Or.inr (Or.inr rfl))))))) (o_val (s_gI rfl (n_MOST_JUMPS S)))) k_noB k_nil)
 (k_cons (k_ret (s_new (n_mk (T := Tc K) (c := 0) (n := 3) (mk_Code S) G_Code___init__ (room.mono (by decide)) rfl (n_Code S) (kb_Code___init___9 F_Code___init__) pa0 grel_ord (len_ord (by decide) rfl) (r_cons (s_fld (c := 0) rfl (cls_Code S) (na_Code_places S) (o_var (i := 0) rfl (by first | exact Or.inl rfl | exact Or.inr (Or.inl rfl) | exact Or.inr (Or.inr rfl)))) (r_cons (s_fld (c := 0) rfl (cls_Code S) (na_Code_door S) (o_var (i := 0) rfl (by first | exact Or.inl rfl | exact Or.inr (Or.inl rfl) | exact Or.inr (Or.inr rfl)))) (r_cons (s_tup (a_star rfl (o_val (s_fld (c := 0) rfl (cls_Code S) (na_Code_jumps S) (o_var (i := 0) rfl (by first | exact Or.inl rfl | exact Or.inr (Or.inl rfl) | exact Or.inr (Or.inr rfl))))) (a_cons (s_var (i := 1) rfl (by first | exact Or.inl rfl | exact Or.inr (Or.inl rfl) | exact Or.inr (Or.inr rfl))) a_nil))) r_nil))) kr_nil)))
 k_nil))), h⟩
abbrev At_Code_without_jump (K : PySem.W.Frag) (fd : FuncData) : Prop := FunD K "without_jump" "Code.without_jump" (defArgs s_Code_without_jump) (defBody s_Code_without_jump) (defScope s_Code_without_jump) [] [] (He.fAd K ("Code", some "without_jump")) fd
theorem df_Code_without_jump (S : Sx K mg) : ∃ fd, At_Code_without_jump K fd := by
  obtain ⟨h, a, b, c⟩ := S.ex
  exact c.def_ 58 (d := d_Code_without_jump) rfl
theorem sc_Code_without_jump : FnScope ["self", "number"] ["self", "number"] (defScope s_Code_without_jump) := ⟨rfl, rfl, rfl, by decide +kernel, rfl, by decide +kernel, by decide +kernel⟩
theorem kb_Code_without_jump_21 {fd : FuncData} (F : At_Code_without_jump K fd) : KBn K fd ["self", "number"] 1 ["number"] (ordL [0, 1]) (ordL [0, 1]) := kbn_ord 1 [0, 1] F (fun _ _ _ _ _ _ us ws h1 h2 => match us, ws, h1, h2 with | [_], [_], _, _ => rfl)
theorem ok_Code_without_jump (S : Sx K mg) {fd : FuncData} (F : At_Code_without_jump K fd) : FnOk P w K mg base CX0 11 (He.fAd K ("Code", some "without_jump")) fd ["self", "number"] (spF (Tc K) 2 f_Code_without_jump) := by
  obtain ⟨fd_Code___init__, F_Code___init__⟩ := df_Code___init__ S
  have G_Code___init__ := ok_Code___init__ (P := P) (w := w) (base := base) S F_Code___init__
  obtain ⟨fd_Code_need_jump, F_Code_need_jump⟩ := df_Code_need_jump S
  have G_Code_need_jump := ok_Code_need_jump (P := P) (w := w) (base := base) S F_Code_need_jump
  refine F.ok sc_Code_without_jump (fun vs H Q E h => h.1) (fun cdv A outer s H vs Q E room h => ?_)
  obtain ⟨Y, h⟩ := fn_start (N := ["self", "number"]) (n := 2) (m := 0) rfl h
  have hu : (A.deeper (envOfC "Code.without_jump" (defScope s_Code_without_jump) s.heap.objs.size (He.fAd K ("Code", some "without_jump")) cdv)).units + 64 < cLine := by have := room.un; omega
  have hu2 : (A.deeper (envOfC "Code.without_jump" (defScope s_Code_without_jump) s.heap.objs.size (He.fAd K ("Code", some "without_jump")) cdv)).units + 130 < cLine := by have := room.un; omega
  have hu0 : (A.deeper (envOfC "Code.without_jump" (defScope s_Code_without_jump) s.heap.objs.size (He.fAd K ("Code", some "without_jump")) cdv)).units < cLine := by omega
  have hu1 : (A.deeper (envOfC "Code.without_jump" (defScope s_Code_without_jump) s.heap.objs.size (He.fAd K ("Code", some "without_jump")) cdv)).units + 1 < cLine := by omega
  have nd := sc_Code_without_jump.nd
  exact ⟨_, (k_cons (k_ex (s_cl (c_mt (c := 0) (n := 1) rfl (a1_v (s_var (i := 0) rfl (by first | exact Or.inl rfl | exact Or.inr (Or.inl rfl) | exact Or.inr (Or.inr rfl)))) (cls_Code S) (me_Code_need_jump S) G_Code_need_jump (room.mono (by decide)) (kb_Code_need_jump_10 F_Code_need_jump) pa0 grel_ord (len_ord (by decide) rfl) (r_cons (s_var (i := 1) rfl (by first | exact Or.inl rfl | exact Or.inr (Or.inl rfl) | exact Or.inr (Or.inr rfl))) r_nil) kr_nil)))
 (k_cons (k_ret (s_new (n_mk (T := Tc K) (c := 0) (n := 3) (mk_Code S) G_Code___init__ (room.mono (by decide)) rfl (n_Code S) (kb_Code___init___9 F_Code___init__) pa0 grel_ord (len_ord (by decide) rfl) (r_cons (s_fld (c := 0) rfl (cls_Code S) (na_Code_places S) (o_var (i := 0) rfl (by first | exact Or.inl rfl | exact Or.inr (Or.inl rfl) | exact Or.inr (Or.inr rfl)))) (r_cons (s_fld (c := 0) rfl (cls_Code S) (na_Code_door S) (o_var (i := 0) rfl (by first | exact Or.inl rfl | exact Or.inr (Or.inl rfl) | exact Or.inr (Or.inr rfl)))) (r_cons (s_bin (opr_add rfl) (o_val (s_sl rfl (o_val (s_fld (c := 0) rfl (cls_Code S) (na_Code_jumps S) (o_var (i := 0) rfl (by first | exact Or.inl rfl | exact Or.inr (Or.inl rfl) | exact Or.inr (Or.inr rfl))))) l_no (l_so (s_var (i := 1) rfl (by first | exact Or.inl rfl | exact Or.inr (Or.inl rfl) | exact Or.inr (Or.inr rfl)))))) (o_val (s_sl rfl (o_val (s_fld (c := 0) rfl (cls_Code S) (na_Code_jumps S) (o_var (i := 0) rfl (by first | exact Or.inl rfl | exact Or.inr (Or.inl rfl) | exact Or.inr (Or.inr rfl))))) (l_so (s_bin (opr_add rfl) (o_var (i := 1) rfl (by first | exact Or.inl rfl | exact Or.inr (Or.inl rfl) | exact Or.inr (Or.inr rfl))) (o_val s_int))) l_no))) r_nil))) kr_nil)))
 k_nil)), h⟩
end
end Wk
namespace Wk
open PySem PySem.Spec PyProof.Rows L2 Lc Hd
section
variable {P : Program} {w : World} {K : PySem.W.Frag} {mg : Str → Option Value} {base : Heap}
abbrev At_are_numbers (K : PySem.W.Frag) (fd : FuncData) : Prop := FunD K "are_numbers" "are_numbers" (defArgs s_are_numbers) (defBody s_are_numbers) (defScope s_are_numbers) [] [] (He.fAd K ("are_numbers", none)) fd
theorem df_are_numbers (S : Sx K mg) : ∃ fd, At_are_numbers K fd := by
  obtain ⟨h, a, b, c⟩ := S.ex
  exact c.def_ 11 (d := d_are_numbers) rfl
theorem sc_are_numbers : FnScope ["code", "thing", "one"] ["code", "thing"] (defScope s_are_numbers) := ⟨rfl, rfl, rfl, by decide +kernel, rfl, by decide +kernel, by decide +kernel⟩
theorem kb_are_numbers_13 {fd : FuncData} (F : At_are_numbers K fd) : KBn K fd ["code", "thing"] 2 [] (ordL [0, 1]) (ordL [0, 1]) := kbn_ord 2 [0, 1] F (fun _ _ _ _ _ _ us ws h1 h2 => match us, ws, h1, h2 with | [_, _], [], _, _ => rfl)
theorem ok_are_numbers (S : Sx K mg) {fd : FuncData} (F : At_are_numbers K fd) : FnOk P w K mg base CX0 5 (He.fAd K ("are_numbers", none)) fd ["code", "thing"] (spF (Tc K) 2 f_are_numbers) := by
  obtain ⟨fd_is_among, F_is_among⟩ := df_is_among S
  have G_is_among := ok_is_among (P := P) (w := w) (base := base) S F_is_among
  refine F.ok sc_are_numbers (fun vs H Q E h => h.1) (fun cdv A outer s H vs Q E room h => ?_)
  obtain ⟨Y, h⟩ := fn_start (N := ["code", "thing", "one"]) (n := 2) (m := 1) rfl h
  have hu : (A.deeper (envOfC "are_numbers" (defScope s_are_numbers) s.heap.objs.size (He.fAd K ("are_numbers", none)) cdv)).units + 64 < cLine := by have := room.un; omega
  have hu2 : (A.deeper (envOfC "are_numbers" (defScope s_are_numbers) s.heap.objs.size (He.fAd K ("are_numbers", none)) cdv)).units + 130 < cLine := by have := room.un; omega
  have hu0 : (A.deeper (envOfC "are_numbers" (defScope s_are_numbers) s.heap.objs.size (He.fAd K ("are_numbers", none)) cdv)).units < cLine := by omega
  have hu1 : (A.deeper (envOfC "are_numbers" (defScope s_are_numbers) s.heap.objs.size (He.fAd K ("are_numbers", none)) cdv)).units + 1 < cLine := by omega
  have nd := sc_are_numbers.nd
  exact ⟨_, (k_cons (k_ret (s_and (s_isi (n := 2) rfl (isc S) (by decide) rfl (n_isinstance S) (o_var (i := 1) rfl (by first | exact Or.inl rfl | exact Or.inr (Or.inl rfl) | exact Or.inr (Or.inr rfl))) (cls_b rfl (n_tuple S) rfl rfl)) (s_one (s_b1 (cr1_all rfl rfl) rfl (n_all S) rfl (o_val (s_new (n_lc [("one", 2)] rfl nd (i_seq rfl (s_var (i := 1) rfl (by first | exact Or.inl rfl | exact Or.inr (Or.inl rfl) | exact Or.inr (Or.inr rfl))) (fun _ h => pi_list h) (fun _ h => pi_tup h) (fun _ h => pi_str h)) (blkOk_by (by kernel_rfl)) (by decide) (fun _ _ _ _ _ _ => (g_name (i := 2) nd rfl (by first | exact Or.inl rfl | exact Or.inr rfl) rfl)) (fun _ _ _ _ _ _ => ts_nil) (fun _ _ _ _ _ _ => (s_cl (c_cl (n := 3) G_is_among (room.mono (by decide)) rfl (n_is_among S) F_is_among.kp (kb_is_among_3 F_is_among) pa0 grel_ord (len_ord (by decide) rfl) (r_cons (s_var (i := 2) rfl (by first | exact Or.inl rfl | exact Or.inr (Or.inl rfl) | exact Or.inr (Or.inr rfl))) (r_cons s_int (r_cons (s_bin (opr_sub) (o_val (s_b1 (cr1_len rfl) rfl (n_len S) rfl (o_val (s_fld (c := 0) rfl (cls_Code S) (na_Code_jumps S) (o_var (i := 0) rfl (by first | exact Or.inl rfl | exact Or.inr (Or.inl rfl) | exact Or.inr (Or.inr rfl))))))) (o_val s_int)) r_nil))) kr_nil))))))))))
 k_nil), h⟩
abbrev At_go_on (K : PySem.W.Frag) (fd : FuncData) : Prop := FunD K "go_on" "go_on" (defArgs s_go_on) (defBody s_go_on) (defScope s_go_on) [] [] (He.fAd K ("go_on", none)) fd
theorem df_go_on (S : Sx K mg) : ∃ fd, At_go_on K fd := by
  obtain ⟨h, a, b, c⟩ := S.ex
  exact c.def_ 12 (d := d_go_on) rfl
theorem sc_go_on : FnScope ["code", "row", "one", "other"] ["code", "row"] (defScope s_go_on) := ⟨rfl, rfl, rfl, by decide +kernel, rfl, by decide +kernel, by decide +kernel⟩
theorem kb_go_on_11 {fd : FuncData} (F : At_go_on K fd) : KBn K fd ["code", "row"] 2 [] (ordL [0, 1]) (ordL [0, 1]) := kbn_ord 2 [0, 1] F (fun _ _ _ _ _ _ us ws h1 h2 => match us, ws, h1, h2 with | [_, _], [], _, _ => rfl)
theorem ok_go_on (S : Sx K mg) {fd : FuncData} (F : At_go_on K fd) : FnOk P w K mg base CX0 1 (He.fAd K ("go_on", none)) fd ["code", "row"] (spF (Tc K) 2 f_go_on) := by
  refine F.ok sc_go_on (fun vs H Q E h => h.1) (fun cdv A outer s H vs Q E room h => ?_)
  obtain ⟨Y, h⟩ := fn_start (N := ["code", "row", "one", "other"]) (n := 2) (m := 2) rfl h
  have hu : (A.deeper (envOfC "go_on" (defScope s_go_on) s.heap.objs.size (He.fAd K ("go_on", none)) cdv)).units + 64 < cLine := by have := room.un; omega
  have hu2 : (A.deeper (envOfC "go_on" (defScope s_go_on) s.heap.objs.size (He.fAd K ("go_on", none)) cdv)).units + 130 < cLine := by have := room.un; omega
  have hu0 : (A.deeper (envOfC "go_on" (defScope s_go_on) s.heap.objs.size (He.fAd K ("go_on", none)) cdv)).units < cLine := by omega
  have hu1 : (A.deeper (envOfC "go_on" (defScope s_go_on) s.heap.objs.size (He.fAd K ("go_on", none)) cdv)).units + 1 < cLine := by omega
  have nd := sc_go_on.nd
  exact ⟨_, (k_cons (k_ret (s_b1 (cr1_all rfl rfl) rfl (n_all S) rfl (o_val (s_new (n_lc [("one", 2), ("other", 3)] rfl nd (i_zip rfl rfl (n_zip S) (s_var (i := 1) rfl (by first | exact Or.inl rfl | exact Or.inr (Or.inl rfl) | exact Or.inr (Or.inr rfl))) (s_sl rfl (o_var (i := 1) rfl (by first | exact Or.inl rfl | exact Or.inr (Or.inl rfl) | exact Or.inr (Or.inr rfl))) (l_so s_int) l_no)) (blkOk_by (by kernel_rfl)) (by decide) (fun _ _ _ _ _ _ => (g_tup rfl rfl (gs_cons (g_name (i := 2) nd rfl (by first | exact Or.inl rfl | exact Or.inr rfl) rfl) (gs_cons (g_name (i := 3) nd rfl (by first | exact Or.inl rfl | exact Or.inr rfl) rfl) gs_nil)))) (fun _ _ _ _ _ _ => ts_nil) (fun _ _ _ _ _ _ => (s_cmp (opr_eq rfl hu) (o_val (s_ix rfl (o_val (s_ix rfl (o_val (s_fld (c := 0) rfl (cls_Code S) (na_Code_jumps S) (o_var (i := 0) rfl (by first | exact Or.inl rfl | exact Or.inr (Or.inl rfl) | exact Or.inr (Or.inr rfl))))) (o_var (i := 2) rfl (by first | exact Or.inl rfl | exact Or.inr (Or.inl rfl) | exact Or.inr (Or.inr rfl))))) (o_val s_int))) (o_val (s_ix rfl (o_val (s_ix rfl (o_val (s_fld (c := 0) rfl (cls_Code S) (na_Code_jumps S) (o_var (i := 0) rfl (by first | exact Or.inl rfl | exact Or.inr (Or.inl rfl) | exact Or.inr (Or.inr rfl))))) (o_var (i := 3) rfl (by first | exact Or.inl rfl | exact Or.inr (Or.inl rfl) | exact Or.inr (Or.inr rfl))))) (o_val s_int))))))))))
 k_nil), h⟩
abbrev At_starts_of (K : PySem.W.Frag) (fd : FuncData) : Prop := FunD K "starts_of" "starts_of" (defArgs s_starts_of) (defBody s_starts_of) (defScope s_starts_of) [] [] (He.fAd K ("starts_of", none)) fd
theorem df_starts_of (S : Sx K mg) : ∃ fd, At_starts_of K fd := by
  obtain ⟨h, a, b, c⟩ := S.ex
  exact c.def_ 13 (d := d_starts_of) rfl
theorem sc_starts_of : FnScope ["code", "row", "number"] ["code", "row"] (defScope s_starts_of) := ⟨rfl, rfl, rfl, by decide +kernel, rfl, by decide +kernel, by decide +kernel⟩
theorem kb_starts_of_12 {fd : FuncData} (F : At_starts_of K fd) : KBn K fd ["code", "row"] 2 [] (ordL [0, 1]) (ordL [0, 1]) := kbn_ord 2 [0, 1] F (fun _ _ _ _ _ _ us ws h1 h2 => match us, ws, h1, h2 with | [_, _], [], _, _ => rfl)
theorem ok_starts_of (S : Sx K mg) {fd : FuncData} (F : At_starts_of K fd) : FnOk P w K mg base CX0 1 (He.fAd K ("starts_of", none)) fd ["code", "row"] (spF (Tc K) 2 f_starts_of) := by
  refine F.ok sc_starts_of (fun vs H Q E h => h.1) (fun cdv A outer s H vs Q E room h => ?_)
  obtain ⟨Y, h⟩ := fn_start (N := ["code", "row", "number"]) (n := 2) (m := 1) rfl h
  have hu : (A.deeper (envOfC "starts_of" (defScope s_starts_of) s.heap.objs.size (He.fAd K ("starts_of", none)) cdv)).units + 64 < cLine := by have := room.un; omega
  have hu2 : (A.deeper (envOfC "starts_of" (defScope s_starts_of) s.heap.objs.size (He.fAd K ("starts_of", none)) cdv)).units + 130 < cLine := by have := room.un; omega
  have hu0 : (A.deeper (envOfC "starts_of" (defScope s_starts_of) s.heap.objs.size (He.fAd K ("starts_of", none)) cdv)).units < cLine := by omega
  have hu1 : (A.deeper (envOfC "starts_of" (defScope s_starts_of) s.heap.objs.size (He.fAd K ("starts_of", none)) cdv)).units + 1 < cLine := by omega
  have nd := sc_starts_of.nd
  exact ⟨_, (k_cons (k_ret (s_new (n_lc [("number", 2)] rfl nd (i_seq rfl (s_var (i := 1) rfl (by first | exact Or.inl rfl | exact Or.inr (Or.inl rfl) | exact Or.inr (Or.inr rfl))) (fun _ h => pi_list h) (fun _ h => pi_tup h) (fun _ h => pi_str h)) (blkOk_by (by kernel_rfl)) (by decide) (fun _ _ _ _ _ _ => (g_name (i := 2) nd rfl (by first | exact Or.inl rfl | exact Or.inr rfl) rfl)) (fun _ _ _ _ _ _ => ts_nil) (fun _ _ _ _ _ _ => (s_ix rfl (o_val (s_ix rfl (o_val (s_fld (c := 0) rfl (cls_Code S) (na_Code_jumps S) (o_var (i := 0) rfl (by first | exact Or.inl rfl | exact Or.inr (Or.inl rfl) | exact Or.inr (Or.inr rfl))))) (o_var (i := 2) rfl (by first | exact Or.inl rfl | exact Or.inr (Or.inl rfl) | exact Or.inr (Or.inr rfl))))) (o_val s_int))))))
 k_nil), h⟩
abbrev At_is_loop (K : PySem.W.Frag) (fd : FuncData) : Prop := FunD K "is_loop" "is_loop" (defArgs s_is_loop) (defBody s_is_loop) (defScope s_is_loop) [] [] (He.fAd K ("is_loop", none)) fd
theorem df_is_loop (S : Sx K mg) : ∃ fd, At_is_loop K fd := by
  obtain ⟨h, a, b, c⟩ := S.ex
  exact c.def_ 14 (d := d_is_loop) rfl
theorem sc_is_loop : FnScope ["code", "thing", "starts"] ["code", "thing"] (defScope s_is_loop) := ⟨rfl, rfl, rfl, by decide +kernel, rfl, by decide +kernel, by decide +kernel⟩
theorem kb_is_loop_15 {fd : FuncData} (F : At_is_loop K fd) : KBn K fd ["code", "thing"] 2 [] (ordL [0, 1]) (ordL [0, 1]) := kbn_ord 2 [0, 1] F (fun _ _ _ _ _ _ us ws h1 h2 => match us, ws, h1, h2 with | [_, _], [], _, _ => rfl)
theorem kb_is_loop_20 {fd : FuncData} (F : At_is_loop K fd) : KBn K fd ["code", "thing"] 0 ["thing", "code"] (ordL [1, 0]) (ordL [1, 0]) := kbn_ord 0 [1, 0] F (fun _ _ _ _ _ _ us ws h1 h2 => match us, ws, h1, h2 with | [], [_, _], _, _ => rfl)
theorem ok_is_loop (S : Sx K mg) {fd : FuncData} (F : At_is_loop K fd) : FnOk P w K mg base CX0 7 (He.fAd K ("is_loop", none)) fd ["code", "thing"] (spF (Tc K) 2 f_is_loop) := by
  obtain ⟨fd_are_numbers, F_are_numbers⟩ := df_are_numbers S
  have G_are_numbers := ok_are_numbers (P := P) (w := w) (base := base) S F_are_numbers
  obtain ⟨fd_go_on, F_go_on⟩ := df_go_on S
  have G_go_on := ok_go_on (P := P) (w := w) (base := base) S F_go_on
  obtain ⟨fd_starts_of, F_starts_of⟩ := df_starts_of S
  have G_starts_of := ok_starts_of (P := P) (w := w) (base := base) S F_starts_of
  refine F.ok sc_is_loop (fun vs H Q E h => h.1) (fun cdv A outer s H vs Q E room h => ?_)
  obtain ⟨Y, h⟩ := fn_start (N := ["code", "thing", "starts"]) (n := 2) (m := 1) rfl h
  have hu : (A.deeper (envOfC "is_loop" (defScope s_is_loop) s.heap.objs.size (He.fAd K ("is_loop", none)) cdv)).units + 64 < cLine := by have := room.un; omega
  have hu2 : (A.deeper (envOfC "is_loop" (defScope s_is_loop) s.heap.objs.size (He.fAd K ("is_loop", none)) cdv)).units + 130 < cLine := by have := room.un; omega
  have hu0 : (A.deeper (envOfC "is_loop" (defScope s_is_loop) s.heap.objs.size (He.fAd K ("is_loop", none)) cdv)).units < cLine := by omega
  have hu1 : (A.deeper (envOfC "is_loop" (defScope s_is_loop) s.heap.objs.size (He.fAd K ("is_loop", none)) cdv)).units + 1 < cLine := by omega
  have nd := sc_is_loop.nd
  exact ⟨_, (k_cons (k_if (b_w (w_or (b_not (b_of (s_cl (c_cl (n := 2) G_are_numbers (room.mono (by decide)) rfl (n_are_numbers S) F_are_numbers.kp (kb_are_numbers_13 F_are_numbers) pa0 grel_ord (len_ord (by decide) rfl) (r_cons (s_var (i := 0) rfl (by first | exact Or.inl rfl | exact Or.inr (Or.inl rfl) | exact Or.inr (Or.inr rfl))) (r_cons (s_var (i := 1) rfl (by first | exact Or.inl rfl | exact Or.inr (Or.inl rfl) | exact Or.inr (Or.inr rfl))) r_nil)) kr_nil)))) (w_or (b_cmp (opr_eq rfl hu) (o_var (i := 1) rfl (by first | exact Or.inl rfl | exact Or.inr (Or.inl rfl) | exact Or.inr (Or.inr rfl))) (o_val (s_tup a_nil))) (w_or1 (b_cmp (opr_ne rfl hu) (o_val (s_ix rfl (o_var (i := 1) rfl (by first | exact Or.inl rfl | exact Or.inr (Or.inl rfl) | exact Or.inr (Or.inr rfl))) (o_val s_int))) (o_val (s_b1 (cr1_minF rfl rfl hu) rfl (n_min S) rfl (o_var (i := 1) rfl (by first | exact Or.inl rfl | exact Or.inr (Or.inl rfl) | exact Or.inr (Or.inr rfl)))))))))) (k_cons (k_ret s_bl)
 k_nil) k_nil)
 (k_cons (k_set (i := 2) nd rfl (by first | exact Or.inl rfl | exact Or.inr rfl) (s_cl (c_cl (n := 2) G_starts_of (room.mono (by decide)) rfl (n_starts_of S) F_starts_of.kp (kb_starts_of_12 F_starts_of) pa0 grel_ord (len_ord (by decide) rfl) (r_cons (s_var (i := 0) rfl (by first | exact Or.inl rfl | exact Or.inr (Or.inl rfl) | exact Or.inr (Or.inr rfl))) (r_cons (s_var (i := 1) rfl (by first | exact Or.inl rfl | exact Or.inr (Or.inl rfl) | exact Or.inr (Or.inr rfl))) r_nil)) kr_nil)))
 (k_cons (k_ret (s_and (s_cl (c_cl (n := 2) G_go_on (room.mono (by decide)) rfl (n_go_on S) F_go_on.kp (kb_go_on_11 F_go_on) pa0 grel_ord (len_ord (by decide) rfl) (r_cons (s_var (i := 0) rfl (by first | exact Or.inl rfl | exact Or.inr (Or.inl rfl) | exact Or.inr (Or.inr rfl))) (r_cons (s_var (i := 1) rfl (by first | exact Or.inl rfl | exact Or.inr (Or.inl rfl) | exact Or.inr (Or.inr rfl))) r_nil)) kr_nil)) (s_and (s_cmp (opr_eq rfl hu) (o_val (s_ix rfl (o_val (s_ix rfl (o_val (s_fld (c := 0) rfl (cls_Code S) (na_Code_jumps S) (o_var (i := 0) rfl (by first | exact Or.inl rfl | exact Or.inr (Or.inl rfl) | exact Or.inr (Or.inr rfl))))) (o_val (s_ix rfl (o_var (i := 1) rfl (by first | exact Or.inl rfl | exact Or.inr (Or.inl rfl) | exact Or.inr (Or.inr rfl))) (o_val (s_neg (o_val s_int))))))) (o_val s_int))) (o_val (s_ix rfl (o_var (i := 2) rfl (by first | exact Or.inl rfl | exact Or.inr (Or.inl rfl) | exact Or.inr (Or.inr rfl))) (o_val s_int)))) (s_one (s_cmp (opr_eq rfl hu) (o_val (s_lenSet rfl rfl rfl (n_len S) rfl (n_set S) (o_var (i := 2) rfl (by first | exact Or.inl rfl | exact Or.inr (Or.inl rfl) | exact Or.inr (Or.inr rfl))))) (o_val (s_b1 (cr1_len rfl) rfl (n_len S) rfl (o_var (i := 2) rfl (by first | exact Or.inl rfl | exact Or.inr (Or.inl rfl) | exact Or.inr (Or.inr rfl))))))))))
 k_nil))), h⟩
abbrev At_is_way (K : PySem.W.Frag) (fd : FuncData) : Prop := FunD K "is_way" "is_way" (defArgs s_is_way) (defBody s_is_way) (defScope s_is_way) [] [] (He.fAd K ("is_way", none)) fd
theorem df_is_way (S : Sx K mg) : ∃ fd, At_is_way K fd := by
  obtain ⟨h, a, b, c⟩ := S.ex
  exact c.def_ 17 (d := d_is_way) rfl
theorem sc_is_way : FnScope ["code", "one", "other", "thing", "visited"] ["code", "one", "other", "thing"] (defScope s_is_way) := ⟨rfl, rfl, rfl, by decide +kernel, rfl, by decide +kernel, by decide +kernel⟩
theorem kb_is_way_18 {fd : FuncData} (F : At_is_way K fd) : KBn K fd ["code", "one", "other", "thing"] 0 ["thing", "other", "one", "code"] (ordL [3, 2, 1, 0]) (ordL [3, 2, 1, 0]) := kbn_ord 0 [3, 2, 1, 0] F (fun _ _ _ _ _ _ us ws h1 h2 => match us, ws, h1, h2 with | [], [_, _, _, _], _, _ => rfl)
theorem kb_is_way_36 {fd : FuncData} (F : At_is_way K fd) : KBn K fd ["code", "one", "other", "thing"] 4 [] (ordL [0, 1, 2, 3]) (ordL [0, 1, 2, 3]) := kbn_ord 4 [0, 1, 2, 3] F (fun _ _ _ _ _ _ us ws h1 h2 => match us, ws, h1, h2 with | [_, _, _, _], [], _, _ => rfl)
theorem ok_is_way (S : Sx K mg) {fd : FuncData} (F : At_is_way K fd) : FnOk P w K mg base CX0 7 (He.fAd K ("is_way", none)) fd ["code", "one", "other", "thing"] (spF (Tc K) 4 f_is_way) := by
  obtain ⟨fd_are_numbers, F_are_numbers⟩ := df_are_numbers S
  have G_are_numbers := ok_are_numbers (P := P) (w := w) (base := base) S F_are_numbers
  obtain ⟨fd_go_on, F_go_on⟩ := df_go_on S
  have G_go_on := ok_go_on (P := P) (w := w) (base := base) S F_go_on
  obtain ⟨fd_starts_of, F_starts_of⟩ := df_starts_of S
  have G_starts_of := ok_starts_of (P := P) (w := w) (base := base) S F_starts_of
  refine F.ok sc_is_way (fun vs H Q E h => h.1) (fun cdv A outer s H vs Q E room h => ?_)
  obtain ⟨Y, h⟩ := fn_start (N := ["code", "one", "other", "thing", "visited"]) (n := 4) (m := 1) rfl h
  have hu : (A.deeper (envOfC "is_way" (defScope s_is_way) s.heap.objs.size (He.fAd K ("is_way", none)) cdv)).units + 64 < cLine := by have := room.un; omega
  have hu2 : (A.deeper (envOfC "is_way" (defScope s_is_way) s.heap.objs.size (He.fAd K ("is_way", none)) cdv)).units + 130 < cLine := by have := room.un; omega
  have hu0 : (A.deeper (envOfC "is_way" (defScope s_is_way) s.heap.objs.size (He.fAd K ("is_way", none)) cdv)).units < cLine := by omega
  have hu1 : (A.deeper (envOfC "is_way" (defScope s_is_way) s.heap.objs.size (He.fAd K ("is_way", none)) cdv)).units + 1 < cLine := by omega
  have nd := sc_is_way.nd
  exact ⟨_, (k_cons (k_if (b_not (b_of (s_cl (c_cl (n := 2) G_are_numbers (room.mono (by decide)) rfl (n_are_numbers S) F_are_numbers.kp (kb_are_numbers_13 F_are_numbers) pa0 grel_ord (len_ord (by decide) rfl) (r_cons (s_var (i := 0) rfl (by first | exact Or.inl rfl | exact Or.inr (Or.inl rfl) | exact Or.inr (Or.inr rfl))) (r_cons (s_var (i := 3) rfl (by first | exact Or.inl rfl | exact Or.inr (Or.inl rfl) | exact Or.inr (Or.inr rfl))) r_nil)) kr_nil)))) (k_cons (k_ret s_bl)
 k_nil) k_nil)
 (k_cons (k_if (b_cmp (opr_eq rfl hu) (o_var (i := 3) rfl (by first | exact Or.inl rfl | exact Or.inr (Or.inl rfl) | exact Or.inr (Or.inr rfl))) (o_val (s_tup a_nil))) (k_cons (k_ret (s_cmp (opr_eq rfl hu) (o_var (i := 1) rfl (by first | exact Or.inl rfl | exact Or.inr (Or.inl rfl) | exact Or.inr (Or.inr rfl))) (o_var (i := 2) rfl (by first | exact Or.inl rfl | exact Or.inr (Or.inl rfl) | exact Or.inr (Or.inr rfl)))))
 k_nil) k_nil)
 (k_cons (k_set (i := 4) nd rfl (by first | exact Or.inl rfl | exact Or.inr rfl) (s_lst (a_star rfl (o_val (s_cl (c_cl (n := 2) G_starts_of (room.mono (by decide)) rfl (n_starts_of S) F_starts_of.kp (kb_starts_of_12 F_starts_of) pa0 grel_ord (len_ord (by decide) rfl) (r_cons (s_var (i := 0) rfl (by first | exact Or.inl rfl | exact Or.inr (Or.inl rfl) | exact Or.inr (Or.inr rfl))) (r_cons (s_var (i := 3) rfl (by first | exact Or.inl rfl | exact Or.inr (Or.inl rfl) | exact Or.inr (Or.inr rfl))) r_nil)) kr_nil))) (a_cons (s_ix rfl (o_val (s_ix rfl (o_val (s_fld (c := 0) rfl (cls_Code S) (na_Code_jumps S) (o_var (i := 0) rfl (by first | exact Or.inl rfl | exact Or.inr (Or.inl rfl) | exact Or.inr (Or.inr rfl))))) (o_val (s_ix rfl (o_var (i := 3) rfl (by first | exact Or.inl rfl | exact Or.inr (Or.inl rfl) | exact Or.inr (Or.inr rfl))) (o_val (s_neg (o_val s_int))))))) (o_val s_int)) a_nil))))
 (k_cons (k_ret (s_and (s_cl (c_cl (n := 2) G_go_on (room.mono (by decide)) rfl (n_go_on S) F_go_on.kp (kb_go_on_11 F_go_on) pa0 grel_ord (len_ord (by decide) rfl) (r_cons (s_var (i := 0) rfl (by first | exact Or.inl rfl | exact Or.inr (Or.inl rfl) | exact Or.inr (Or.inr rfl))) (r_cons (s_var (i := 3) rfl (by first | exact Or.inl rfl | exact Or.inr (Or.inl rfl) | exact Or.inr (Or.inr rfl))) r_nil)) kr_nil)) (s_and (s_cmp (opr_eq rfl hu) (o_val (s_tup (a_cons (s_ix rfl (o_var (i := 4) rfl (by first | exact Or.inl rfl | exact Or.inr (Or.inl rfl) | exact Or.inr (Or.inr rfl))) (o_val s_int)) (a_cons (s_ix rfl (o_var (i := 4) rfl (by first | exact Or.inl rfl | exact Or.inr (Or.inl rfl) | exact Or.inr (Or.inr rfl))) (o_val (s_neg (o_val s_int)))) a_nil)))) (o_val (s_tup (a_cons (s_var (i := 1) rfl (by first | exact Or.inl rfl | exact Or.inr (Or.inl rfl) | exact Or.inr (Or.inr rfl))) (a_cons (s_var (i := 2) rfl (by first | exact Or.inl rfl | exact Or.inr (Or.inl rfl) | exact Or.inr (Or.inr rfl))) a_nil))))) (s_one (s_cmp (opr_eq rfl hu) (o_val (s_lenSet rfl rfl rfl (n_len S) rfl (n_set S) (o_var (i := 4) rfl (by first | exact Or.inl rfl | exact Or.inr (Or.inl rfl) | exact Or.inr (Or.inr rfl))))) (o_val (s_b1 (cr1_len rfl) rfl (n_len S) rfl (o_var (i := 4) rfl (by first | exact Or.inl rfl | exact Or.inr (Or.inl rfl) | exact Or.inr (Or.inr rfl))))))))))
 k_nil)))), h⟩
abbrev At_loops_from (K : PySem.W.Frag) (fd : FuncData) : Prop := FunD K "loops_from" "loops_from" (defArgs s_loops_from) (defBody s_loops_from) (defScope s_loops_from) [] [] (He.fAd K ("loops_from", none)) fd
theorem df_loops_from (S : Sx K mg) : ∃ fd, At_loops_from K fd := by
  obtain ⟨h, a, b, c⟩ := S.ex
  exact c.def_ 9 (d := d_loops_from) rfl
theorem sc_loops_from : FnScope ["code", "row", "visited", "found", "end", "number"] ["code", "row", "visited"] (defScope s_loops_from) := ⟨rfl, rfl, rfl, by decide +kernel, rfl, by decide +kernel, by decide +kernel⟩
theorem kb_loops_from_14 {fd : FuncData} (F : At_loops_from K fd) : KBn K fd ["code", "row", "visited"] 3 [] (ordL [0, 1, 2]) (ordL [0, 1, 2]) := kbn_ord 3 [0, 1, 2] F (fun _ _ _ _ _ _ us ws h1 h2 => match us, ws, h1, h2 with | [_, _, _], [], _, _ => rfl)
theorem okr_loops_from (S : Sx K mg) {fd : FuncData} (F : At_loops_from K fd) : ∀ fuel : Nat, FnOk P w K mg base CX0 (0 + fuel + 1) (He.fAd K ("loops_from", none)) fd ["code", "row", "visited"] (spF (Tc K) 3 (f_loops_from fuel)) := by
  have F_loops_from := F
  intro fuel
  induction fuel with
  | zero =>
    refine F.ok sc_loops_from (fun vs H Q E h => h.1) (fun cdv A outer s H vs Q E room h => ?_)
    obtain ⟨_, _, _, _, _, h⟩ := h
    exact h.elim
  | succ fuel G_loops_from =>
    refine F.ok sc_loops_from (fun vs H Q E h => h.1) (fun cdv A outer s H vs Q E room h => ?_)
    obtain ⟨Y, h⟩ := fn_start (N := ["code", "row", "visited", "found", "end", "number"]) (n := 3) (m := 3) rfl h
    have hu : (A.deeper (envOfC "loops_from" (defScope s_loops_from) s.heap.objs.size (He.fAd K ("loops_from", none)) cdv)).units + 64 < cLine := by have := room.un; omega
    have hu2 : (A.deeper (envOfC "loops_from" (defScope s_loops_from) s.heap.objs.size (He.fAd K ("loops_from", none)) cdv)).units + 130 < cLine := by have := room.un; omega
    have hu0 : (A.deeper (envOfC "loops_from" (defScope s_loops_from) s.heap.objs.size (He.fAd K ("loops_from", none)) cdv)).units < cLine := by omega
    have hu1 : (A.deeper (envOfC "loops_from" (defScope s_loops_from) s.heap.objs.size (He.fAd K ("loops_from", none)) cdv)).units + 1 < cLine := by omega
    have nd := sc_loops_from.nd
    exact ⟨_, (k_cons (k_par2 (i := 3) (j := 4) rfl nd rfl rfl (by decide) rfl rfl (p_own (n_lst a_nil) (fun _ => (p_val (s_ix rfl (o_val (s_ix rfl (o_val (s_fld (c := 0) rfl (cls_Code S) (na_Code_jumps S) (o_var (i := 0) rfl (by first | exact Or.inl rfl | exact Or.inr (Or.inl rfl) | exact Or.inr (Or.inr rfl))))) (o_val (s_ix rfl (o_var (i := 1) rfl (by first | exact Or.inl rfl | exact Or.inr (Or.inl rfl) | exact Or.inr (Or.inr rfl))) (o_val (s_neg (o_val s_int))))))) (o_val s_int)) p_nil))) rfl)
   (k_cons (k_if (b_cmp (opr_eq rfl hu) (o_var (i := 4) rfl (by first | exact Or.inl rfl | exact Or.inr (Or.inl rfl) | exact Or.inr (Or.inr rfl))) (o_val (s_ix rfl (o_var (i := 2) rfl (by first | exact Or.inl rfl | exact Or.inr (Or.inl rfl) | exact Or.inr (Or.inr rfl))) (o_val s_int)))) (k_cons (k_ret (s_lst (a_cons (s_var (i := 1) rfl (by first | exact Or.inl rfl | exact Or.inr (Or.inl rfl) | exact Or.inr (Or.inr rfl))) a_nil)))
   k_nil) k_nil)
   (k_cons (k_if (b_cmp (opr_in rfl hu2) (o_var (i := 4) rfl (by first | exact Or.inl rfl | exact Or.inr (Or.inl rfl) | exact Or.inr (Or.inr rfl))) (o_var (i := 2) rfl (by first | exact Or.inl rfl | exact Or.inr (Or.inl rfl) | exact Or.inr (Or.inr rfl)))) (k_cons (k_ret (s_lst a_nil))
   k_nil) k_nil)
   (k_cons (k_for (passes_of rfl) rfl (i_r2 rfl (n_range S) (s_bin (opr_add rfl) (o_val (s_ix rfl (o_var (i := 1) rfl (by first | exact Or.inl rfl | exact Or.inr (Or.inl rfl) | exact Or.inr (Or.inr rfl))) (o_val s_int))) (o_val s_int)) (s_b1 (cr1_len rfl) rfl (n_len S) rfl (o_val (s_fld (c := 0) rfl (cls_Code S) (na_Code_jumps S) (o_var (i := 0) rfl (by first | exact Or.inl rfl | exact Or.inr (Or.inl rfl) | exact Or.inr (Or.inr rfl))))))) (g_name (i := 5) nd rfl (by first | exact Or.inl rfl | exact Or.inr rfl) rfl) (k_cons (k_if (b_cmp (opr_eq rfl hu) (o_val (s_ix rfl (o_val (s_ix rfl (o_val (s_fld (c := 0) rfl (cls_Code S) (na_Code_jumps S) (o_var (i := 0) rfl (by first | exact Or.inl rfl | exact Or.inr (Or.inl rfl) | exact Or.inr (Or.inr rfl))))) (o_var (i := 5) rfl (by first | exact Or.inl rfl | exact Or.inr (Or.inl rfl) | exact Or.inr (Or.inr rfl))))) (o_val s_int))) (o_var (i := 4) rfl (by first | exact Or.inl rfl | exact Or.inr (Or.inl rfl) | exact Or.inr (Or.inr rfl)))) (k_cons (k_ex (s_ext (i := 3) rfl (by first | exact Or.inl rfl | exact Or.inr (Or.inl rfl) | exact Or.inr (Or.inr rfl)) (s_cl (c_cl (n := 3) G_loops_from (room.mono (by omega)) rfl (n_loops_from S) F_loops_from.kp (kb_loops_from_14 F_loops_from) pa0 grel_ord (len_ord (by decide) rfl) (r_cons (s_var (i := 0) rfl (by first | exact Or.inl rfl | exact Or.inr (Or.inl rfl) | exact Or.inr (Or.inr rfl))) (r_cons (s_tup (a_star rfl (o_var (i := 1) rfl (by first | exact Or.inl rfl | exact Or.inr (Or.inl rfl) | exact Or.inr (Or.inr rfl))) (a_cons (s_var (i := 5) rfl (by first | exact Or.inl rfl | exact Or.inr (Or.inl rfl) | exact Or.inr (Or.inr rfl))) a_nil))) (r_cons (s_tup (a_star rfl (o_var (i := 2) rfl (by first | exact Or.inl rfl | exact Or.inr (Or.inl rfl) | exact Or.inr (Or.inr rfl))) (a_cons (s_var (i := 4) rfl (by first | exact Or.inl rfl | exact Or.inr (Or.inl rfl) | exact Or.inr (Or.inr rfl))) a_nil))) r_nil))) kr_nil)) (by decide) (by decide)))
   k_nil) k_nil)
   k_nil))
   (k_cons (k_retO (i := 3) rfl (by first | exact Or.inl rfl | exact Or.inr (Or.inl rfl) | exact Or.inr (Or.inr rfl)))
   k_nil))))), h⟩
theorem ok_loops_from (S : Sx K mg) {fd : FuncData} (F : At_loops_from K fd) : FnOk P w K mg base CX0 15 (He.fAd K ("loops_from", none)) fd ["code", "row", "visited"] (spF (Tc K) 3 (f_loops_from 14)) := okr_loops_from S F 14
abbrev At_loops (K : PySem.W.Frag) (fd : FuncData) : Prop := FunD K "loops" "loops" (defArgs s_loops) (defBody s_loops) (defScope s_loops) [] [] (He.fAd K ("loops", none)) fd
theorem df_loops (S : Sx K mg) : ∃ fd, At_loops K fd := by
  obtain ⟨h, a, b, c⟩ := S.ex
  exact c.def_ 10 (d := d_loops) rfl
theorem sc_loops : FnScope ["code", "found", "number", "jump"] ["code"] (defScope s_loops) := ⟨rfl, rfl, rfl, by decide +kernel, rfl, by decide +kernel, by decide +kernel⟩
theorem kb_loops_19 {fd : FuncData} (F : At_loops K fd) : KBn K fd ["code"] 0 ["code"] (ordL [0]) (ordL [0]) := kbn_ord 0 [0] F (fun _ _ _ _ _ _ us ws h1 h2 => match us, ws, h1, h2 with | [], [_], _, _ => rfl)
theorem kb_loops_29 {fd : FuncData} (F : At_loops K fd) : KBn K fd ["code"] 1 [] (ordL [0]) (ordL [0]) := kbn_ord 1 [0] F (fun _ _ _ _ _ _ us ws h1 h2 => match us, ws, h1, h2 with | [_], [], _, _ => rfl)
theorem ok_loops (S : Sx K mg) {fd : FuncData} (F : At_loops K fd) : FnOk P w K mg base CX0 17 (He.fAd K ("loops", none)) fd ["code"] (spF (Tc K) 1 f_loops) := by
  obtain ⟨fd_loops_from, F_loops_from⟩ := df_loops_from S
  have G_loops_from := ok_loops_from (P := P) (w := w) (base := base) S F_loops_from
  refine F.ok sc_loops (fun vs H Q E h => h.1) (fun cdv A outer s H vs Q E room h => ?_)
  obtain ⟨Y, h⟩ := fn_start (N := ["code", "found", "number", "jump"]) (n := 1) (m := 3) rfl h
  have hu : (A.deeper (envOfC "loops" (defScope s_loops) s.heap.objs.size (He.fAd K ("loops", none)) cdv)).units + 64 < cLine := by have := room.un; omega
  have hu2 : (A.deeper (envOfC "loops" (defScope s_loops) s.heap.objs.size (He.fAd K ("loops", none)) cdv)).units + 130 < cLine := by have := room.un; omega
  have hu0 : (A.deeper (envOfC "loops" (defScope s_loops) s.heap.objs.size (He.fAd K ("loops", none)) cdv)).units < cLine := by omega
  have hu1 : (A.deeper (envOfC "loops" (defScope s_loops) s.heap.objs.size (He.fAd K ("loops", none)) cdv)).units + 1 < cLine := by omega
  have nd := sc_loops.nd
  exact ⟨_, (k_cons (k_own (i := 1) nd rfl (by first | exact Or.inl rfl | exact Or.inr rfl) (n_lst a_nil))
 (k_cons (k_for (passes_of rfl) rfl (i_en rfl rfl (n_enumerate S) (s_fld (c := 0) rfl (cls_Code S) (na_Code_jumps S) (o_var (i := 0) rfl (by first | exact Or.inl rfl | exact Or.inr (Or.inl rfl) | exact Or.inr (Or.inr rfl))))) (g_tup rfl rfl (gs_cons (g_name (i := 2) nd rfl (by first | exact Or.inl rfl | exact Or.inr rfl) rfl) (gs_cons (g_name (i := 3) nd rfl (by first | exact Or.inl rfl | exact Or.inr rfl) rfl) gs_nil))) (k_cons (k_ex (s_ext (i := 1) rfl (by first | exact Or.inl rfl | exact Or.inr (Or.inl rfl) | exact Or.inr (Or.inr rfl)) (s_cl (c_cl (n := 3) G_loops_from (room.mono (by decide)) rfl (n_loops_from S) F_loops_from.kp (kb_loops_from_14 F_loops_from) pa0 grel_ord (len_ord (by decide) rfl) (r_cons (s_var (i := 0) rfl (by first | exact Or.inl rfl | exact Or.inr (Or.inl rfl) | exact Or.inr (Or.inr rfl))) (r_cons (s_tup (a_cons (s_var (i := 2) rfl (by first | exact Or.inl rfl | exact Or.inr (Or.inl rfl) | exact Or.inr (Or.inr rfl))) a_nil)) (r_cons (s_tup (a_cons (s_ix rfl (o_var (i := 3) rfl (by first | exact Or.inl rfl | exact Or.inr (Or.inl rfl) | exact Or.inr (Or.inr rfl))) (o_val s_int)) a_nil)) r_nil))) kr_nil)) (by decide) (by decide)))
 k_nil))
 (k_cons (k_ret (s_t1 (cr1_tuple rfl) rfl (n_tuple S) rfl (o_val (s_b1 (cr1_sorted rfl rfl hu) rfl (n_sorted S) rfl (o_var (i := 1) rfl (by first | exact Or.inl rfl | exact Or.inr (Or.inl rfl) | exact Or.inr (Or.inr rfl)))))))
 k_nil))), h⟩
abbrev At_need_loop (K : PySem.W.Frag) (fd : FuncData) : Prop := FunD K "need_loop" "need_loop" (defArgs s_need_loop) (defBody s_need_loop) (defScope s_need_loop) [] [] (He.fAd K ("need_loop", none)) fd
theorem df_need_loop (S : Sx K mg) : ∃ fd, At_need_loop K fd := by
  obtain ⟨h, a, b, c⟩ := S.ex
  exact c.def_ 15 (d := d_need_loop) rfl
theorem sc_need_loop : FnScope ["code", "loop"] ["code", "loop"] (defScope s_need_loop) := ⟨rfl, rfl, rfl, by decide +kernel, rfl, by decide +kernel, by decide +kernel⟩
theorem kb_need_loop_16 {fd : FuncData} (F : At_need_loop K fd) : KBn K fd ["code", "loop"] 2 [] (ordL [0, 1]) (ordL [0, 1]) := kbn_ord 2 [0, 1] F (fun _ _ _ _ _ _ us ws h1 h2 => match us, ws, h1, h2 with | [_, _], [], _, _ => rfl)
theorem ok_need_loop (S : Sx K mg) {fd : FuncData} (F : At_need_loop K fd) : FnOk P w K mg base CX0 9 (He.fAd K ("need_loop", none)) fd ["code", "loop"] (spF (Tc K) 2 f_need_loop) := by
  obtain ⟨fd_is_loop, F_is_loop⟩ := df_is_loop S
  have G_is_loop := ok_is_loop (P := P) (w := w) (base := base) S F_is_loop
  refine F.ok sc_need_loop (fun vs H Q E h => h.1) (fun cdv A outer s H vs Q E room h => ?_)
  obtain ⟨Y, h⟩ := fn_start (N := ["code", "loop"]) (n := 2) (m := 0) rfl h
  have hu : (A.deeper (envOfC "need_loop" (defScope s_need_loop) s.heap.objs.size (He.fAd K ("need_loop", none)) cdv)).units + 64 < cLine := by have := room.un; omega
  have hu2 : (A.deeper (envOfC "need_loop" (defScope s_need_loop) s.heap.objs.size (He.fAd K ("need_loop", none)) cdv)).units + 130 < cLine := by have := room.un; omega
  have hu0 : (A.deeper (envOfC "need_loop" (defScope s_need_loop) s.heap.objs.size (He.fAd K ("need_loop", none)) cdv)).units < cLine := by omega
  have hu1 : (A.deeper (envOfC "need_loop" (defScope s_need_loop) s.heap.objs.size (He.fAd K ("need_loop", none)) cdv)).units + 1 < cLine := by omega
  have nd := sc_need_loop.nd
  exact ⟨_, (k_cons (k_if (b_not (b_of (s_cl (c_cl (n := 2) G_is_loop (room.mono (by decide)) rfl (n_is_loop S) F_is_loop.kp (kb_is_loop_15 F_is_loop) pa0 grel_ord (len_ord (by decide) rfl) (r_cons (s_var (i := 0) rfl (by first | exact Or.inl rfl | exact Or.inr (Or.inl rfl) | exact Or.inr (Or.inr rfl))) (r_cons (s_var (i := 1) rfl (by first | exact Or.inl rfl | exact Or.inr (Or.inl rfl) | exact Or.inr (Or.inr rfl))) r_nil)) kr_nil)))) k_noB k_nil)
 k_nil), h⟩
end
end Wk
namespace Wk
open PySem PySem.Spec PyProof.Rows L2 Lc Hd
section
variable {P : Program} {w : World} {K : PySem.W.Frag} {mg : Str → Option Value} {base : Heap}
abbrev At_places_of (K : PySem.W.Frag) (fd : FuncData) : Prop := FunD K "places_of" "places_of" (defArgs s_places_of) (defBody s_places_of) (defScope s_places_of) [] [] (He.fAd K ("places_of", none)) fd
theorem df_places_of (S : Sx K mg) : ∃ fd, At_places_of K fd := by
  obtain ⟨h, a, b, c⟩ := S.ex
  exact c.def_ 16 (d := d_places_of) rfl
theorem sc_places_of : FnScope ["code", "loop"] ["code", "loop"] (defScope s_places_of) := ⟨rfl, rfl, rfl, by decide +kernel, rfl, by decide +kernel, by decide +kernel⟩
theorem kb_places_of_17 {fd : FuncData} (F : At_places_of K fd) : KBn K fd ["code", "loop"] 0 ["loop", "code"] (ordL [1, 0]) (ordL [1, 0]) := kbn_ord 0 [1, 0] F (fun _ _ _ _ _ _ us ws h1 h2 => match us, ws, h1, h2 with | [], [_, _], _, _ => rfl)
theorem ok_places_of (S : Sx K mg) {fd : FuncData} (F : At_places_of K fd) : FnOk P w K mg base CX0 11 (He.fAd K ("places_of", none)) fd ["code", "loop"] (spF (Tc K) 2 f_places_of) := by
  obtain ⟨fd_need_loop, F_need_loop⟩ := df_need_loop S
  have G_need_loop := ok_need_loop (P := P) (w := w) (base := base) S F_need_loop
  obtain ⟨fd_starts_of, F_starts_of⟩ := df_starts_of S
  have G_starts_of := ok_starts_of (P := P) (w := w) (base := base) S F_starts_of
  refine F.ok sc_places_of (fun vs H Q E h => h.1) (fun cdv A outer s H vs Q E room h => ?_)
  obtain ⟨Y, h⟩ := fn_start (N := ["code", "loop"]) (n := 2) (m := 0) rfl h
  have hu : (A.deeper (envOfC "places_of" (defScope s_places_of) s.heap.objs.size (He.fAd K ("places_of", none)) cdv)).units + 64 < cLine := by have := room.un; omega
  have hu2 : (A.deeper (envOfC "places_of" (defScope s_places_of) s.heap.objs.size (He.fAd K ("places_of", none)) cdv)).units + 130 < cLine := by have := room.un; omega
  have hu0 : (A.deeper (envOfC "places_of" (defScope s_places_of) s.heap.objs.size (He.fAd K ("places_of", none)) cdv)).units < cLine := by omega
  have hu1 : (A.deeper (envOfC "places_of" (defScope s_places_of) s.heap.objs.size (He.fAd K ("places_of", none)) cdv)).units + 1 < cLine := by omega
  have nd := sc_places_of.nd
  exact ⟨_, (k_cons (k_ex (s_cl (c_cl (n := 2) G_need_loop (room.mono (by decide)) rfl (n_need_loop S) F_need_loop.kp (kb_need_loop_16 F_need_loop) pa0 grel_ord (len_ord (by decide) rfl) (r_cons (s_var (i := 0) rfl (by first | exact Or.inl rfl | exact Or.inr (Or.inl rfl) | exact Or.inr (Or.inr rfl))) (r_cons (s_var (i := 1) rfl (by first | exact Or.inl rfl | exact Or.inr (Or.inl rfl) | exact Or.inr (Or.inr rfl))) r_nil)) kr_nil)))
 (k_cons (k_ret (s_t1 (cr1_tuple rfl) rfl (n_tuple S) rfl (o_val (s_b1 (cr1_sorted rfl rfl hu) rfl (n_sorted S) rfl (o_val (s_cl (c_cl (n := 2) G_starts_of (room.mono (by decide)) rfl (n_starts_of S) F_starts_of.kp (kb_starts_of_12 F_starts_of) pa0 grel_ord (len_ord (by decide) rfl) (r_cons (s_var (i := 0) rfl (by first | exact Or.inl rfl | exact Or.inr (Or.inl rfl) | exact Or.inr (Or.inr rfl))) (r_cons (s_var (i := 1) rfl (by first | exact Or.inl rfl | exact Or.inr (Or.inl rfl) | exact Or.inr (Or.inr rfl))) r_nil)) kr_nil)))))))
 k_nil)), h⟩
abbrev At__law_first_right (K : PySem.W.Frag) (fd : FuncData) : Prop := FunD K "_law_first_right" "_law_first_right" (defArgs s__law_first_right) (defBody s__law_first_right) (defScope s__law_first_right) [] [] (He.fAd K ("_law_first_right", none)) fd
theorem df__law_first_right (S : Sx K mg) : ∃ fd, At__law_first_right K fd := by
  obtain ⟨h, a, b, c⟩ := S.ex
  exact c.def_ 50 (d := d__law_first_right) rfl
theorem sc__law_first_right : FnScope ["a", "b", "view", "more"] ["a", "b", "view"] (defScope s__law_first_right) := ⟨rfl, rfl, rfl, by decide +kernel, rfl, by decide +kernel, by decide +kernel⟩
theorem kb__law_first_right_63 {fd : FuncData} (F : At__law_first_right K fd) : KBn K fd ["a", "b", "view"] 3 [] (ordL [0, 1, 2]) (ordL [0, 1, 2]) := kbn_ord 3 [0, 1, 2] F (fun _ _ _ _ _ _ us ws h1 h2 => match us, ws, h1, h2 with | [_, _, _], [], _, _ => rfl)
theorem ok__law_first_right (S : Sx K mg) {fd : FuncData} (F : At__law_first_right K fd) : FnOk P w K mg base CX0 19 (He.fAd K ("_law_first_right", none)) fd ["a", "b", "view"] (spF (Tc K) 3 f__law_first_right) := by
  obtain ⟨fd_Code___init__, F_Code___init__⟩ := df_Code___init__ S
  have G_Code___init__ := ok_Code___init__ (P := P) (w := w) (base := base) S F_Code___init__
  obtain ⟨fd_Code_priced, F_Code_priced⟩ := df_Code_priced S
  have G_Code_priced := ok_Code_priced (P := P) (w := w) (base := base) S F_Code_priced
  obtain ⟨fd_Code_with_jump, F_Code_with_jump⟩ := df_Code_with_jump S
  have G_Code_with_jump := ok_Code_with_jump (P := P) (w := w) (base := base) S F_Code_with_jump
  obtain ⟨fd_Code_without_jump, F_Code_without_jump⟩ := df_Code_without_jump S
  have G_Code_without_jump := ok_Code_without_jump (P := P) (w := w) (base := base) S F_Code_without_jump
  obtain ⟨fd_is_loop, F_is_loop⟩ := df_is_loop S
  have G_is_loop := ok_is_loop (P := P) (w := w) (base := base) S F_is_loop
  obtain ⟨fd_is_way, F_is_way⟩ := df_is_way S
  have G_is_way := ok_is_way (P := P) (w := w) (base := base) S F_is_way
  obtain ⟨fd_loops, F_loops⟩ := df_loops S
  have G_loops := ok_loops (P := P) (w := w) (base := base) S F_loops
  obtain ⟨fd_places_of, F_places_of⟩ := df_places_of S
  have G_places_of := ok_places_of (P := P) (w := w) (base := base) S F_places_of
  obtain ⟨fd_Code___eq__, F_Code___eq__⟩ := df_Code___eq__ S
  have G_Code___eq__ := ok_Code___eq__ (P := P) (w := w) (base := base) S F_Code___eq__
  have B_Code___eq__ := bd_Code___eq__ F_Code___eq__
  refine F.ok sc__law_first_right (fun vs H Q E h => h.1) (fun cdv A outer s H vs Q E room h => ?_)
  obtain ⟨Y, h⟩ := fn_start (N := ["a", "b", "view", "more"]) (n := 3) (m := 1) rfl h
  have hu : (A.deeper (envOfC "_law_first_right" (defScope s__law_first_right) s.heap.objs.size (He.fAd K ("_law_first_right", none)) cdv)).units + 64 < cLine := by have := room.un; omega
  have hu2 : (A.deeper (envOfC "_law_first_right" (defScope s__law_first_right) s.heap.objs.size (He.fAd K ("_law_first_right", none)) cdv)).units + 130 < cLine := by have := room.un; omega
  have hu0 : (A.deeper (envOfC "_law_first_right" (defScope s__law_first_right) s.heap.objs.size (He.fAd K ("_law_first_right", none)) cdv)).units < cLine := by omega
  have hu1 : (A.deeper (envOfC "_law_first_right" (defScope s__law_first_right) s.heap.objs.size (He.fAd K ("_law_first_right", none)) cdv)).units + 1 < cLine := by omega
  have nd := sc__law_first_right.nd
  exact ⟨_, (k_cons (k_if (b_inEq (c := 0) (op_inNe G_Code___eq__ (eq_Code S) B_Code___eq__ pass0 (room.mono (by decide)) hu1) (a1_v (s_new (n_mk0 (T := Tc K) (c := 0) (mk_Code S) G_Code___init__ (room.mono (by decide)) rfl (n_Code S) (kb_Code___init___24 F_Code___init__) pa0 grel_ord (len_ord (by decide) rfl) (kr_cons (s_lst (a_cons (s_tup (a_cons (s_var (i := 0) rfl (by first | exact Or.inl rfl | exact Or.inr (Or.inl rfl) | exact Or.inr (Or.inr rfl))) (a_cons (s_var (i := 1) rfl (by first | exact Or.inl rfl | exact Or.inr (Or.inl rfl) | exact Or.inr (Or.inr rfl))) (a_cons s_int a_nil)))) (a_cons (s_tup (a_cons (s_var (i := 1) rfl (by first | exact Or.inl rfl | exact Or.inr (Or.inl rfl) | exact Or.inr (Or.inr rfl))) (a_cons (s_var (i := 0) rfl (by first | exact Or.inl rfl | exact Or.inr (Or.inl rfl) | exact Or.inr (Or.inr rfl))) (a_cons s_int a_nil)))) a_nil))) (kr_cons (s_var (i := 0) rfl (by first | exact Or.inl rfl | exact Or.inr (Or.inl rfl) | exact Or.inr (Or.inr rfl))) (kr_cons (s_tup (a_cons (s_var (i := 0) rfl (by first | exact Or.inl rfl | exact Or.inr (Or.inl rfl) | exact Or.inr (Or.inr rfl))) (a_cons (s_var (i := 1) rfl (by first | exact Or.inl rfl | exact Or.inr (Or.inl rfl) | exact Or.inr (Or.inr rfl))) a_nil))) kr_nil)))))) (a1_v (s_var (i := 2) rfl (by first | exact Or.inl rfl | exact Or.inr (Or.inl rfl) | exact Or.inr (Or.inr rfl)))) (nobehind _ (by decide) (by decide))) (k_cons (k_ret s_bl)
 k_nil) k_nil)
 (k_cons (k_set (i := 3) nd rfl (by first | exact Or.inl rfl | exact Or.inr rfl) (s_cl (c_mt0 (c := 0) rfl (a1_v (s_var (i := 2) rfl (by first | exact Or.inl rfl | exact Or.inr (Or.inl rfl) | exact Or.inr (Or.inr rfl)))) (cls_Code S) (me_Code_with_jump S) G_Code_with_jump (room.mono (by decide)) (kb_Code_with_jump_23 F_Code_with_jump) pa0 grel_ord (len_ord (by decide) rfl) (kr_cons (s_tup (a_cons (s_var (i := 1) rfl (by first | exact Or.inl rfl | exact Or.inr (Or.inl rfl) | exact Or.inr (Or.inr rfl))) (a_cons (s_var (i := 1) rfl (by first | exact Or.inl rfl | exact Or.inr (Or.inl rfl) | exact Or.inr (Or.inr rfl))) (a_cons s_int a_nil)))) kr_nil))))
 (k_cons (k_if (b_w (w_or (b_inEq (c := 0) (op_inNe G_Code___eq__ (eq_Code S) B_Code___eq__ pass0 (room.mono (by decide)) hu1) (a1_v (s_cl (c_mt0 (c := 0) rfl (a1_v (s_var (i := 3) rfl (by first | exact Or.inl rfl | exact Or.inr (Or.inl rfl) | exact Or.inr (Or.inr rfl)))) (cls_Code S) (me_Code_without_jump S) G_Code_without_jump (room.mono (by decide)) (kb_Code_without_jump_21 F_Code_without_jump) pa0 grel_ord (len_ord (by decide) rfl) (kr_cons s_int kr_nil)))) (a1_v (s_var (i := 2) rfl (by first | exact Or.inl rfl | exact Or.inr (Or.inl rfl) | exact Or.inr (Or.inr rfl)))) (nobehind _ (by decide) (by decide))) (w_or1 (b_inEq (c := 0) (op_inNe G_Code___eq__ (eq_Code S) B_Code___eq__ pass0 (room.mono (by decide)) hu1) (a1_v (s_cl (c_mt0 (c := 0) rfl (a1_v (s_var (i := 2) rfl (by first | exact Or.inl rfl | exact Or.inr (Or.inl rfl) | exact Or.inr (Or.inr rfl)))) (cls_Code S) (me_Code_priced S) G_Code_priced (room.mono (by decide)) (kb_Code_priced_22 F_Code_priced) pa0 grel_ord (len_ord (by decide) rfl) (kr_cons s_int (kr_cons s_int kr_nil))))) (a1_v (s_var (i := 2) rfl (by first | exact Or.inl rfl | exact Or.inr (Or.inl rfl) | exact Or.inr (Or.inr rfl)))) (nobehind _ (by decide) (by decide)))))) (k_cons (k_ret s_bl)
 k_nil) k_nil)
 (k_cons (k_if (b_w (w_or (b_cmp (opr_ne rfl hu) (o_val (s_cl (c_cl0 G_loops (room.mono (by decide)) rfl (n_loops S) F_loops.kp (kb_loops_19 F_loops) pa0 grel_ord (len_ord (by decide) rfl) (kr_cons (s_var (i := 2) rfl (by first | exact Or.inl rfl | exact Or.inr (Or.inl rfl) | exact Or.inr (Or.inr rfl))) kr_nil)))) (o_val (s_tup (a_cons (s_tup (a_cons s_int (a_cons s_int a_nil))) a_nil)))) (w_or1 (b_cmp (opr_isn) (o_val (s_cl (c_cl0 G_is_loop (room.mono (by decide)) rfl (n_is_loop S) F_is_loop.kp (kb_is_loop_20 F_is_loop) pa0 grel_ord (len_ord (by decide) rfl) (kr_cons (s_tup (a_cons s_int (a_cons s_int a_nil))) (kr_cons (s_var (i := 2) rfl (by first | exact Or.inl rfl | exact Or.inr (Or.inl rfl) | exact Or.inr (Or.inr rfl))) kr_nil))))) (o_val s_bl))))) (k_cons (k_ret s_bl)
 k_nil) k_nil)
 (k_cons (k_ret (s_and (s_cmp (opr_eq rfl hu) (o_val (s_cl (c_cl0 G_places_of (room.mono (by decide)) rfl (n_places_of S) F_places_of.kp (kb_places_of_17 F_places_of) pa0 grel_ord (len_ord (by decide) rfl) (kr_cons (s_tup (a_cons s_int (a_cons s_int a_nil))) (kr_cons (s_var (i := 2) rfl (by first | exact Or.inl rfl | exact Or.inr (Or.inl rfl) | exact Or.inr (Or.inr rfl))) kr_nil))))) (o_val (s_tup (a_cons (s_var (i := 0) rfl (by first | exact Or.inl rfl | exact Or.inr (Or.inl rfl) | exact Or.inr (Or.inr rfl))) (a_cons (s_var (i := 1) rfl (by first | exact Or.inl rfl | exact Or.inr (Or.inl rfl) | exact Or.inr (Or.inr rfl))) a_nil))))) (s_one (s_cmp (opr_is) (o_val (s_cl (c_cl0 G_is_way (room.mono (by decide)) rfl (n_is_way S) F_is_way.kp (kb_is_way_18 F_is_way) pa0 grel_ord (len_ord (by decide) rfl) (kr_cons (s_tup (a_cons s_int a_nil)) (kr_cons (s_var (i := 1) rfl (by first | exact Or.inl rfl | exact Or.inr (Or.inl rfl) | exact Or.inr (Or.inr rfl))) (kr_cons (s_var (i := 0) rfl (by first | exact Or.inl rfl | exact Or.inr (Or.inl rfl) | exact Or.inr (Or.inr rfl))) (kr_cons (s_var (i := 2) rfl (by first | exact Or.inl rfl | exact Or.inr (Or.inl rfl) | exact Or.inr (Or.inr rfl))) kr_nil))))))) (o_val s_bl)))))
 k_nil))))), h⟩
abbrev At__law_next (K : PySem.W.Frag) (fd : FuncData) : Prop := FunD K "_law_next" "_law_next" (defArgs s__law_next) (defBody s__law_next) (defScope s__law_next) [] [] (He.fAd K ("_law_next", none)) fd
theorem df__law_next (S : Sx K mg) : ∃ fd, At__law_next K fd := by
  obtain ⟨h, a, b, c⟩ := S.ex
  exact c.def_ 48 (d := d__law_next) rfl
theorem sc__law_next : FnScope ["m", "many", "at", "bits", "cell", "blend", "rest"] ["m", "many"] (defScope s__law_next) := ⟨rfl, rfl, rfl, by decide +kernel, rfl, by decide +kernel, by decide +kernel⟩
theorem kb__law_next_25 {fd : FuncData} (F : At__law_next K fd) : KBn K fd ["m", "many"] 2 [] (ordL [0, 1]) (ordL [0, 1]) := kbn_ord 2 [0, 1] F (fun _ _ _ _ _ _ us ws h1 h2 => match us, ws, h1, h2 with | [_, _], [], _, _ => rfl)
theorem ok__law_next (S : Sx K mg) {fd : FuncData} (F : At__law_next K fd) : FnOk P w K mg base CX0 1 (He.fAd K ("_law_next", none)) fd ["m", "many"] (spF (Tc K) 2 f__law_next) := by
  refine F.ok sc__law_next (fun vs H Q E h => h.1) (fun cdv A outer s H vs Q E room h => ?_)
  obtain ⟨Y, h⟩ := fn_start (N := ["m", "many", "at", "bits", "cell", "blend", "rest"]) (n := 2) (m := 5) rfl h
  have hu : (A.deeper (envOfC "_law_next" (defScope s__law_next) s.heap.objs.size (He.fAd K ("_law_next", none)) cdv)).units + 64 < cLine := by have := room.un; omega
  have hu2 : (A.deeper (envOfC "_law_next" (defScope s__law_next) s.heap.objs.size (He.fAd K ("_law_next", none)) cdv)).units + 130 < cLine := by have := room.un; omega
  have hu0 : (A.deeper (envOfC "_law_next" (defScope s__law_next) s.heap.objs.size (He.fAd K ("_law_next", none)) cdv)).units < cLine := by omega
  have hu1 : (A.deeper (envOfC "_law_next" (defScope s__law_next) s.heap.objs.size (He.fAd K ("_law_next", none)) cdv)).units + 1 < cLine := by omega
  have nd := sc__law_next.nd
  exact ⟨_, (k_cons (k_wh 70 (passes_of rfl) (b_w (w_and (b_omLeft (i := 0) rfl (by first | exact Or.inl rfl | exact Or.inr (Or.inl rfl) | exact Or.inr (Or.inr rfl)) hu (by decide) (by decide) rfl) (w_and1 (b_cmp (opr_eq rfl hu) (o_val (e_omHead (i := 0) rfl (by first | exact Or.inl rfl | exact Or.inr (Or.inl rfl) | exact Or.inr (Or.inr rfl)) hu (by decide) (by decide) rfl)) (o_val s_int))))) (k_cons (k_omTail (i := 0) (j2 := 0) rfl (by first | exact Or.inl rfl | exact Or.inr (Or.inl rfl) | exact Or.inr (Or.inr rfl)) hu (by decide) (by decide) rfl)
 k_nil))
 (k_cons (k_if (b_omLeft (i := 0) rfl (by first | exact Or.inl rfl | exact Or.inr (Or.inl rfl) | exact Or.inr (Or.inr rfl)) hu (by decide) (by decide) rfl) (k_cons (k_set (i := 6) nd rfl (by first | exact Or.inl rfl | exact Or.inr rfl) (e_omHead (i := 0) rfl (by first | exact Or.inl rfl | exact Or.inr (Or.inl rfl) | exact Or.inr (Or.inr rfl)) hu (by decide) (by decide) rfl))
 (k_cons (k_omHead (i := 0) rfl (by first | exact Or.inl rfl | exact Or.inr (Or.inl rfl) | exact Or.inr (Or.inr rfl)) hu (by decide) (by decide) (s_bin (opr_fdiv) (o_var (i := 6) rfl (by first | exact Or.inl rfl | exact Or.inr (Or.inl rfl) | exact Or.inr (Or.inr rfl))) (o_var (i := 1) rfl (by first | exact Or.inl rfl | exact Or.inr (Or.inl rfl) | exact Or.inr (Or.inr rfl)))) (fun ho hi he => ps_asg he (pg_sub ho hi set_list)))
 (k_cons (k_ret (s_bin (opr_mod) (o_val (s_t1 (cr1_int) rfl (n_int S) rfl (o_var (i := 6) rfl (by first | exact Or.inl rfl | exact Or.inr (Or.inl rfl) | exact Or.inr (Or.inr rfl))))) (o_var (i := 1) rfl (by first | exact Or.inl rfl | exact Or.inr (Or.inl rfl) | exact Or.inr (Or.inr rfl)))))
 k_nil))) k_nil)
 (k_cons (k_par2 (i := 2) (j := 3) rfl nd rfl rfl (by decide) rfl rfl (p_val (s_bin (opr_add rfl) (o_val (e_omInt (i := 0) rfl (by first | exact Or.inl rfl | exact Or.inr (Or.inl rfl) | exact Or.inr (Or.inr rfl)) hu (by decide) (by decide))) (o_val s_int)) (p_val (e_omCells (i := 0) rfl (by first | exact Or.inl rfl | exact Or.inr (Or.inl rfl) | exact Or.inr (Or.inr rfl)) hu (by decide) (by decide)) p_nil)) rfl)
 (k_cons (k_omAt (i := 0) rfl (by first | exact Or.inl rfl | exact Or.inr (Or.inl rfl) | exact Or.inr (Or.inr rfl)) hu (by decide) (by decide) (s_var (i := 2) rfl (by first | exact Or.inl rfl | exact Or.inr (Or.inl rfl) | exact Or.inr (Or.inr rfl))) rfl)
 (k_cons (k_set (i := 4) nd rfl (by first | exact Or.inl rfl | exact Or.inr rfl) (s_ite (b_cmp (opr_ne rfl hu) (o_var (i := 3) rfl (by first | exact Or.inl rfl | exact Or.inr (Or.inl rfl) | exact Or.inr (Or.inr rfl))) (o_val (s_lst a_nil))) (s_t1 (cr1_int) rfl (n_int S) rfl (o_val (s_ix rfl (o_var (i := 3) rfl (by first | exact Or.inl rfl | exact Or.inr (Or.inl rfl) | exact Or.inr (Or.inr rfl))) (o_val (s_bin (opr_mod) (o_val (s_t1 (cr1_int) rfl (n_int S) rfl (o_val (s_bin (opr_add rfl) (o_val (s_bin (opr_mul) (o_var (i := 2) rfl (by first | exact Or.inl rfl | exact Or.inr (Or.inl rfl) | exact Or.inr (Or.inr rfl))) (o_var (i := 2) rfl (by first | exact Or.inl rfl | exact Or.inr (Or.inl rfl) | exact Or.inr (Or.inr rfl))))) (o_val (s_bin (opr_fdiv) (o_var (i := 2) rfl (by first | exact Or.inl rfl | exact Or.inr (Or.inl rfl) | exact Or.inr (Or.inr rfl))) (o_val s_int))))))) (o_val (s_b1 (cr1_len rfl) rfl (n_len S) rfl (o_var (i := 3) rfl (by first | exact Or.inl rfl | exact Or.inr (Or.inl rfl) | exact Or.inr (Or.inr rfl)))))))))) s_int))
 (k_cons (k_set (i := 5) nd rfl (by first | exact Or.inl rfl | exact Or.inr rfl) (s_bin (opr_mod) (o_val (s_t1 (cr1_int) rfl (n_int S) rfl (o_val (s_bin (opr_add rfl) (o_val (s_bin (opr_add rfl) (o_val (s_bin (opr_mul) (o_var (i := 4) rfl (by first | exact Or.inl rfl | exact Or.inr (Or.inl rfl) | exact Or.inr (Or.inr rfl))) (o_val s_int))) (o_val (s_bin (opr_mul) (o_var (i := 2) rfl (by first | exact Or.inl rfl | exact Or.inr (Or.inl rfl) | exact Or.inr (Or.inr rfl))) (o_val s_int))))) (o_val (s_bin (opr_mul) (o_val (s_bin (opr_mul) (o_val s_int) (o_var (i := 2) rfl (by first | exact Or.inl rfl | exact Or.inr (Or.inl rfl) | exact Or.inr (Or.inr rfl))))) (o_var (i := 2) rfl (by first | exact Or.inl rfl | exact Or.inr (Or.inl rfl) | exact Or.inr (Or.inr rfl))))))))) (o_val s_int)))
 (k_cons (k_ret (s_bin (opr_mod) (o_val (s_t1 (cr1_int) rfl (n_int S) rfl (o_val (s_bin (opr_fdiv) (o_val (s_bin (opr_mod) (o_val (s_t1 (cr1_int) rfl (n_int S) rfl (o_val (s_bin (opr_add rfl) (o_val (s_bin (opr_mul) (o_var (i := 5) rfl (by first | exact Or.inl rfl | exact Or.inr (Or.inl rfl) | exact Or.inr (Or.inr rfl))) (o_val s_int))) (o_val (s_bin (opr_mul) (o_val s_int) (o_var (i := 2) rfl (by first | exact Or.inl rfl | exact Or.inr (Or.inl rfl) | exact Or.inr (Or.inr rfl))))))))) (o_val s_int))) (o_val s_int))))) (o_var (i := 1) rfl (by first | exact Or.inl rfl | exact Or.inr (Or.inl rfl) | exact Or.inr (Or.inr rfl)))))
 k_nil))))))), h⟩
abbrev At__law_names (K : PySem.W.Frag) (fd : FuncData) : Prop := FunD K "_law_names" "_law_names" (defArgs s__law_names) (defBody s__law_names) (defScope s__law_names) [] [] (He.fAd K ("_law_names", none)) fd
theorem df__law_names (S : Sx K mg) : ∃ fd, At__law_names K fd := by
  obtain ⟨h, a, b, c⟩ := S.ex
  exact c.def_ 49 (d := d__law_names) rfl
theorem sc__law_names : FnScope ["m", "many", "letters", "stem", "k", "at", "first", "by", "word"] ["m", "many"] (defScope s__law_names) := ⟨rfl, rfl, rfl, by decide +kernel, rfl, by decide +kernel, by decide +kernel⟩
theorem kb__law_names_65 {fd : FuncData} (F : At__law_names K fd) : KBn K fd ["m", "many"] 2 [] (ordL [0, 1]) (ordL [0, 1]) := kbn_ord 2 [0, 1] F (fun _ _ _ _ _ _ us ws h1 h2 => match us, ws, h1, h2 with | [_, _], [], _, _ => rfl)
theorem ok__law_names (S : Sx K mg) {fd : FuncData} (F : At__law_names K fd) : FnOk P w K mg base CX0 3 (He.fAd K ("_law_names", none)) fd ["m", "many"] (spF (Tc K) 2 f__law_names) := by
  obtain ⟨fd__law_next, F__law_next⟩ := df__law_next S
  have G__law_next := ok__law_next (P := P) (w := w) (base := base) S F__law_next
  refine F.ok sc__law_names (fun vs H Q E h => h.1) (fun cdv A outer s H vs Q E room h => ?_)
  obtain ⟨Y, h⟩ := fn_start (N := ["m", "many", "letters", "stem", "k", "at", "first", "by", "word"]) (n := 2) (m := 7) rfl h
  have hu : (A.deeper (envOfC "_law_names" (defScope s__law_names) s.heap.objs.size (He.fAd K ("_law_names", none)) cdv)).units + 64 < cLine := by have := room.un; omega
  have hu2 : (A.deeper (envOfC "_law_names" (defScope s__law_names) s.heap.objs.size (He.fAd K ("_law_names", none)) cdv)).units + 130 < cLine := by have := room.un; omega
  have hu0 : (A.deeper (envOfC "_law_names" (defScope s__law_names) s.heap.objs.size (He.fAd K ("_law_names", none)) cdv)).units < cLine := by omega
  have hu1 : (A.deeper (envOfC "_law_names" (defScope s__law_names) s.heap.objs.size (He.fAd K ("_law_names", none)) cdv)).units + 1 < cLine := by omega
  have nd := sc__law_names.nd
  exact ⟨_, (k_cons (k_parT (n := 2) (is := [2, 3]) rfl rfl (p_val s_str (p_val s_str p_nil)) (gn_cons (i := 2) nd rfl (by first | exact Or.inl rfl | exact Or.inr rfl) (gn_cons (i := 3) nd rfl (by first | exact Or.inl rfl | exact Or.inr rfl) gn_nil)))
 (k_cons (k_for (passes_of rfl) rfl (i_r1 rfl (n_range S) (s_cl (c_cl (n := 2) G__law_next (room.mono (by decide)) rfl (n__law_next S) F__law_next.kp (kb__law_next_25 F__law_next) pa0 grel_ord (len_ord (by decide) rfl) (r_own (i := 0) rfl (by first | exact Or.inl rfl | exact Or.inr (Or.inl rfl) | exact Or.inr (Or.inr rfl)) (r_cons s_int r_nil)) kr_nil))) (g_name (i := 4) nd rfl (by first | exact Or.inl rfl | exact Or.inr rfl) rfl) (k_cons (k_set (i := 3) nd rfl (by first | exact Or.inl rfl | exact Or.inr rfl) (s_bin (opr_add rfl) (o_var (i := 3) rfl (by first | exact Or.inl rfl | exact Or.inr (Or.inl rfl) | exact Or.inr (Or.inr rfl))) (o_val (s_ix rfl (o_var (i := 2) rfl (by first | exact Or.inl rfl | exact Or.inr (Or.inl rfl) | exact Or.inr (Or.inr rfl))) (o_val (s_cl (c_cl (n := 2) G__law_next (room.mono (by decide)) rfl (n__law_next S) F__law_next.kp (kb__law_next_25 F__law_next) pa0 grel_ord (len_ord (by decide) rfl) (r_own (i := 0) rfl (by first | exact Or.inl rfl | exact Or.inr (Or.inl rfl) | exact Or.inr (Or.inr rfl)) (r_cons s_int r_nil)) kr_nil)))))))
 k_nil))
 (k_cons (k_parT (n := 3) (is := [5, 6, 7]) rfl rfl (p_val (s_cl (c_cl (n := 2) G__law_next (room.mono (by decide)) rfl (n__law_next S) F__law_next.kp (kb__law_next_25 F__law_next) pa0 grel_ord (len_ord (by decide) rfl) (r_own (i := 0) rfl (by first | exact Or.inl rfl | exact Or.inr (Or.inl rfl) | exact Or.inr (Or.inr rfl)) (r_cons (s_bin (opr_add rfl) (o_val (s_b1 (cr1_len rfl) rfl (n_len S) rfl (o_var (i := 3) rfl (by first | exact Or.inl rfl | exact Or.inr (Or.inl rfl) | exact Or.inr (Or.inr rfl))))) (o_val s_int)) r_nil)) kr_nil)) (p_val (s_cl (c_cl (n := 2) G__law_next (room.mono (by decide)) rfl (n__law_next S) F__law_next.kp (kb__law_next_25 F__law_next) pa0 grel_ord (len_ord (by decide) rfl) (r_own (i := 0) rfl (by first | exact Or.inl rfl | exact Or.inr (Or.inl rfl) | exact Or.inr (Or.inr rfl)) (r_cons s_int r_nil)) kr_nil)) (p_val (s_ix rfl (o_val (s_lst (a_cons s_int (a_cons s_int (a_cons s_int (a_cons s_int (a_cons s_int (a_cons s_int a_nil)))))))) (o_val (s_cl (c_cl (n := 2) G__law_next (room.mono (by decide)) rfl (n__law_next S) F__law_next.kp (kb__law_next_25 F__law_next) pa0 grel_ord (len_ord (by decide) rfl) (r_own (i := 0) rfl (by first | exact Or.inl rfl | exact Or.inr (Or.inl rfl) | exact Or.inr (Or.inr rfl)) (r_cons s_int r_nil)) kr_nil)))) p_nil))) (gn_cons (i := 5) nd rfl (by first | exact Or.inl rfl | exact Or.inr rfl) (gn_cons (i := 6) nd rfl (by first | exact Or.inl rfl | exact Or.inr rfl) (gn_cons (i := 7) nd rfl (by first | exact Or.inl rfl | exact Or.inr rfl) gn_nil))))
 (k_cons (k_set (i := 8) nd rfl (by first | exact Or.inl rfl | exact Or.inr rfl) (s_sl rfl (o_val (s_bin (opr_add rfl) (o_var (i := 3) rfl (by first | exact Or.inl rfl | exact Or.inr (Or.inl rfl) | exact Or.inr (Or.inr rfl))) (o_val (s_bin (opr_mulS) (o_val (s_ix rfl (o_var (i := 2) rfl (by first | exact Or.inl rfl | exact Or.inr (Or.inl rfl) | exact Or.inr (Or.inr rfl))) (o_var (i := 6) rfl (by first | exact Or.inl rfl | exact Or.inr (Or.inl rfl) | exact Or.inr (Or.inr rfl))))) (o_val s_int))))) l_no (l_so s_int)))
 (k_cons (k_if (b_w (w_and (b_cmp (opr_gt) (o_var (i := 7) rfl (by first | exact Or.inl rfl | exact Or.inr (Or.inl rfl) | exact Or.inr (Or.inr rfl))) (o_val s_int)) (w_and1 (b_cmp (opr_lt rfl hu0) (o_var (i := 1) rfl (by first | exact Or.inl rfl | exact Or.inr (Or.inl rfl) | exact Or.inr (Or.inr rfl))) (o_val s_int))))) (k_cons (k_ret (s_new (n_lc [("k", 4)] rfl nd (i_r1 rfl (n_range S) (s_var (i := 1) rfl (by first | exact Or.inl rfl | exact Or.inr (Or.inl rfl) | exact Or.inr (Or.inr rfl)))) (blkOk_by (by kernel_rfl)) (by decide) (fun _ _ _ _ _ _ => (g_name (i := 4) nd rfl (by first | exact Or.inl rfl | exact Or.inr rfl) rfl)) (fun _ _ _ _ _ _ => ts_nil) (fun _ _ _ _ _ _ => (s_ite (b_cmp (opr_gt) (o_var (i := 7) rfl (by first | exact Or.inl rfl | exact Or.inr (Or.inl rfl) | exact Or.inr (Or.inr rfl))) (o_val s_int)) (s_sl rfl (o_var (i := 8) rfl (by first | exact Or.inl rfl | exact Or.inr (Or.inl rfl) | exact Or.inr (Or.inr rfl))) (l_so (s_var (i := 4) rfl (by first | exact Or.inl rfl | exact Or.inr (Or.inl rfl) | exact Or.inr (Or.inr rfl)))) l_no) (s_sl rfl (o_var (i := 8) rfl (by first | exact Or.inl rfl | exact Or.inr (Or.inl rfl) | exact Or.inr (Or.inr rfl))) l_no (l_so (s_bin (opr_sub) (o_val (s_bin (opr_add rfl) (o_var (i := 4) rfl (by first | exact Or.inl rfl | exact Or.inr (Or.inl rfl) | exact Or.inr (Or.inr rfl))) (o_val s_int))) (o_var (i := 1) rfl (by first | exact Or.inl rfl | exact Or.inr (Or.inl rfl) | exact Or.inr (Or.inr rfl)))))))))))
 k_nil) k_nil)
 (k_cons (k_ret (s_new (n_lc [("k", 4)] rfl nd (i_r1 rfl (n_range S) (s_var (i := 1) rfl (by first | exact Or.inl rfl | exact Or.inr (Or.inl rfl) | exact Or.inr (Or.inr rfl)))) (blkOk_by (by kernel_rfl)) (by decide) (fun _ _ _ _ _ _ => (g_name (i := 4) nd rfl (by first | exact Or.inl rfl | exact Or.inr rfl) rfl)) (fun _ _ _ _ _ _ => ts_nil) (fun _ _ _ _ _ _ => (s_bin (opr_add rfl) (o_val (s_bin (opr_add rfl) (o_val (s_sl rfl (o_var (i := 3) rfl (by first | exact Or.inl rfl | exact Or.inr (Or.inl rfl) | exact Or.inr (Or.inr rfl))) l_no (l_so (s_var (i := 5) rfl (by first | exact Or.inl rfl | exact Or.inr (Or.inl rfl) | exact Or.inr (Or.inr rfl)))))) (o_val (s_ix rfl (o_var (i := 2) rfl (by first | exact Or.inl rfl | exact Or.inr (Or.inl rfl) | exact Or.inr (Or.inr rfl))) (o_val (s_bin (opr_mod) (o_val (s_t1 (cr1_int) rfl (n_int S) rfl (o_val (s_bin (opr_add rfl) (o_var (i := 6) rfl (by first | exact Or.inl rfl | exact Or.inr (Or.inl rfl) | exact Or.inr (Or.inr rfl))) (o_val (s_bin (opr_mul) (o_var (i := 7) rfl (by first | exact Or.inl rfl | exact Or.inr (Or.inl rfl) | exact Or.inr (Or.inr rfl))) (o_var (i := 4) rfl (by first | exact Or.inl rfl | exact Or.inr (Or.inl rfl) | exact Or.inr (Or.inr rfl))))))))) (o_val s_int))))))) (o_val (s_sl rfl (o_var (i := 3) rfl (by first | exact Or.inl rfl | exact Or.inr (Or.inl rfl) | exact Or.inr (Or.inr rfl))) (l_so (s_var (i := 5) rfl (by first | exact Or.inl rfl | exact Or.inr (Or.inl rfl) | exact Or.inr (Or.inr rfl)))) l_no)))))))
 k_nil)))))), h⟩
abbrev At_cost_of (K : PySem.W.Frag) (fd : FuncData) : Prop := FunD K "cost_of" "cost_of" (defArgs s_cost_of) (defBody s_cost_of) (defScope s_cost_of) [] [] (He.fAd K ("cost_of", none)) fd
theorem df_cost_of (S : Sx K mg) : ∃ fd, At_cost_of K fd := by
  obtain ⟨h, a, b, c⟩ := S.ex
  exact c.def_ 37 (d := d_cost_of) rfl
theorem sc_cost_of : FnScope ["code", "lot", "number"] ["code", "lot"] (defScope s_cost_of) := ⟨rfl, rfl, rfl, by decide +kernel, rfl, by decide +kernel, by decide +kernel⟩
theorem kb_cost_of_30 {fd : FuncData} (F : At_cost_of K fd) : KBn K fd ["code", "lot"] 2 [] (ordL [0, 1]) (ordL [0, 1]) := kbn_ord 2 [0, 1] F (fun _ _ _ _ _ _ us ws h1 h2 => match us, ws, h1, h2 with | [_, _], [], _, _ => rfl)
theorem ok_cost_of (S : Sx K mg) {fd : FuncData} (F : At_cost_of K fd) : FnOk P w K mg base CX0 1 (He.fAd K ("cost_of", none)) fd ["code", "lot"] (spF (Tc K) 2 f_cost_of) := by
  refine F.ok sc_cost_of (fun vs H Q E h => h.1) (fun cdv A outer s H vs Q E room h => ?_)
  obtain ⟨Y, h⟩ := fn_start (N := ["code", "lot", "number"]) (n := 2) (m := 1) rfl h
  have hu : (A.deeper (envOfC "cost_of" (defScope s_cost_of) s.heap.objs.size (He.fAd K ("cost_of", none)) cdv)).units + 64 < cLine := by have := room.un; omega
  have hu2 : (A.deeper (envOfC "cost_of" (defScope s_cost_of) s.heap.objs.size (He.fAd K ("cost_of", none)) cdv)).units + 130 < cLine := by have := room.un; omega
  have hu0 : (A.deeper (envOfC "cost_of" (defScope s_cost_of) s.heap.objs.size (He.fAd K ("cost_of", none)) cdv)).units < cLine := by omega
  have hu1 : (A.deeper (envOfC "cost_of" (defScope s_cost_of) s.heap.objs.size (He.fAd K ("cost_of", none)) cdv)).units + 1 < cLine := by omega
  have nd := sc_cost_of.nd
  exact ⟨_, (k_cons (k_ret (s_b1 (cr1_sum rfl rfl) rfl (n_sum S) rfl (o_val (s_new (n_lc [("number", 2)] rfl nd (i_seq rfl (s_var (i := 1) rfl (by first | exact Or.inl rfl | exact Or.inr (Or.inl rfl) | exact Or.inr (Or.inr rfl))) (fun _ h => pi_list h) (fun _ h => pi_tup h) (fun _ h => pi_str h)) (blkOk_by (by kernel_rfl)) (by decide) (fun _ _ _ _ _ _ => (g_name (i := 2) nd rfl (by first | exact Or.inl rfl | exact Or.inr rfl) rfl)) (fun _ _ _ _ _ _ => ts_nil) (fun _ _ _ _ _ _ => (s_ix rfl (o_val (s_ix rfl (o_val (s_fld (c := 0) rfl (cls_Code S) (na_Code_jumps S) (o_var (i := 0) rfl (by first | exact Or.inl rfl | exact Or.inr (Or.inl rfl) | exact Or.inr (Or.inr rfl))))) (o_var (i := 2) rfl (by first | exact Or.inl rfl | exact Or.inr (Or.inl rfl) | exact Or.inr (Or.inr rfl))))) (o_val s_int))))))))
 k_nil), h⟩
abbrev At_is_lot (K : PySem.W.Frag) (fd : FuncData) : Prop := FunD K "is_lot" "is_lot" (defArgs s_is_lot) (defBody s_is_lot) (defScope s_is_lot) [] [] (He.fAd K ("is_lot", none)) fd
theorem df_is_lot (S : Sx K mg) : ∃ fd, At_is_lot K fd := by
  obtain ⟨h, a, b, c⟩ := S.ex
  exact c.def_ 33 (d := d_is_lot) rfl
theorem sc_is_lot : FnScope ["code", "thing"] ["code", "thing"] (defScope s_is_lot) := ⟨rfl, rfl, rfl, by decide +kernel, rfl, by decide +kernel, by decide +kernel⟩
theorem kb_is_lot_32 {fd : FuncData} (F : At_is_lot K fd) : KBn K fd ["code", "thing"] 2 [] (ordL [0, 1]) (ordL [0, 1]) := kbn_ord 2 [0, 1] F (fun _ _ _ _ _ _ us ws h1 h2 => match us, ws, h1, h2 with | [_, _], [], _, _ => rfl)
theorem ok_is_lot (S : Sx K mg) {fd : FuncData} (F : At_is_lot K fd) : FnOk P w K mg base CX0 7 (He.fAd K ("is_lot", none)) fd ["code", "thing"] (spF (Tc K) 2 f_is_lot) := by
  obtain ⟨fd_are_numbers, F_are_numbers⟩ := df_are_numbers S
  have G_are_numbers := ok_are_numbers (P := P) (w := w) (base := base) S F_are_numbers
  obtain ⟨fd_are_rising, F_are_rising⟩ := df_are_rising S
  have G_are_rising := ok_are_rising (P := P) (w := w) (base := base) S F_are_rising
  refine F.ok sc_is_lot (fun vs H Q E h => h.1) (fun cdv A outer s H vs Q E room h => ?_)
  obtain ⟨Y, h⟩ := fn_start (N := ["code", "thing"]) (n := 2) (m := 0) rfl h
  have hu : (A.deeper (envOfC "is_lot" (defScope s_is_lot) s.heap.objs.size (He.fAd K ("is_lot", none)) cdv)).units + 64 < cLine := by have := room.un; omega
  have hu2 : (A.deeper (envOfC "is_lot" (defScope s_is_lot) s.heap.objs.size (He.fAd K ("is_lot", none)) cdv)).units + 130 < cLine := by have := room.un; omega
  have hu0 : (A.deeper (envOfC "is_lot" (defScope s_is_lot) s.heap.objs.size (He.fAd K ("is_lot", none)) cdv)).units < cLine := by omega
  have hu1 : (A.deeper (envOfC "is_lot" (defScope s_is_lot) s.heap.objs.size (He.fAd K ("is_lot", none)) cdv)).units + 1 < cLine := by omega
  have nd := sc_is_lot.nd
  exact ⟨_, (k_cons (k_ret (s_and (s_cl (c_cl (n := 2) G_are_numbers (room.mono (by decide)) rfl (n_are_numbers S) F_are_numbers.kp (kb_are_numbers_13 F_are_numbers) pa0 grel_ord (len_ord (by decide) rfl) (r_cons (s_var (i := 0) rfl (by first | exact Or.inl rfl | exact Or.inr (Or.inl rfl) | exact Or.inr (Or.inr rfl))) (r_cons (s_var (i := 1) rfl (by first | exact Or.inl rfl | exact Or.inr (Or.inl rfl) | exact Or.inr (Or.inr rfl))) r_nil)) kr_nil)) (s_one (s_cl (c_cl (n := 1) G_are_rising (room.mono (by decide)) rfl (n_are_rising S) F_are_rising.kp (kb_are_rising_1 F_are_rising) pa0 grel_ord (len_ord (by decide) rfl) (r_cons (s_var (i := 1) rfl (by first | exact Or.inl rfl | exact Or.inr (Or.inl rfl) | exact Or.inr (Or.inr rfl))) r_nil) kr_nil)))))
 k_nil), h⟩
abbrev At_are_packed (K : PySem.W.Frag) (fd : FuncData) : Prop := FunD K "are_packed" "are_packed" (defArgs s_are_packed) (defBody s_are_packed) (defScope s_are_packed) [] [] (He.fAd K ("are_packed", none)) fd
theorem df_are_packed (S : Sx K mg) : ∃ fd, At_are_packed K fd := by
  obtain ⟨h, a, b, c⟩ := S.ex
  exact c.def_ 43 (d := d_are_packed) rfl
theorem sc_are_packed : FnScope ["thing", "price", "item", "most", "items", "times"] ["thing", "price"] (defScope s_are_packed) := ⟨rfl, rfl, rfl, by decide +kernel, rfl, by decide +kernel, by decide +kernel⟩
theorem kb_are_packed_28 {fd : FuncData} (F : At_are_packed K fd) : KBn K fd ["thing", "price"] 2 [] (ordL [0, 1]) (ordL [0, 1]) := kbn_ord 2 [0, 1] F (fun _ _ _ _ _ _ us ws h1 h2 => match us, ws, h1, h2 with | [_, _], [], _, _ => rfl)
theorem ok_are_packed (S : Sx K mg) {fd : FuncData} (F : At_are_packed K fd) : FnOk P w K mg base CX0 1 (He.fAd K ("are_packed", none)) fd ["thing", "price"] (spF (Tc K) 2 f_are_packed) := by
  refine F.ok sc_are_packed (fun vs H Q E h => h.1) (fun cdv A outer s H vs Q E room h => ?_)
  obtain ⟨Y, h⟩ := fn_start (N := ["thing", "price", "item", "most", "items", "times"]) (n := 2) (m := 4) rfl h
  have hu : (A.deeper (envOfC "are_packed" (defScope s_are_packed) s.heap.objs.size (He.fAd K ("are_packed", none)) cdv)).units + 64 < cLine := by have := room.un; omega
  have hu2 : (A.deeper (envOfC "are_packed" (defScope s_are_packed) s.heap.objs.size (He.fAd K ("are_packed", none)) cdv)).units + 130 < cLine := by have := room.un; omega
  have hu0 : (A.deeper (envOfC "are_packed" (defScope s_are_packed) s.heap.objs.size (He.fAd K ("are_packed", none)) cdv)).units < cLine := by omega
  have hu1 : (A.deeper (envOfC "are_packed" (defScope s_are_packed) s.heap.objs.size (He.fAd K ("are_packed", none)) cdv)).units + 1 < cLine := by omega
  have nd := sc_are_packed.nd
  exact ⟨_, (k_cons (k_for (passes_of rfl) rfl (i_items (s_var (i := 1) rfl (by first | exact Or.inl rfl | exact Or.inr (Or.inl rfl) | exact Or.inr (Or.inr rfl)))) (g_tup rfl rfl (gs_cons (g_name (i := 2) nd rfl (by first | exact Or.inl rfl | exact Or.inr rfl) rfl) (gs_cons (g_name (i := 3) nd rfl (by first | exact Or.inl rfl | exact Or.inr rfl) rfl) gs_nil))) (k_cons (k_if (b_cmp (opr_gt) (o_val (s_b1 (cr1_sum rfl rfl) rfl (n_sum S) rfl (o_val (s_new (n_lc [("items", 4), ("times", 5)] rfl nd (i_seq rfl (s_var (i := 0) rfl (by first | exact Or.inl rfl | exact Or.inr (Or.inl rfl) | exact Or.inr (Or.inr rfl))) (fun _ h => pi_list h) (fun _ h => pi_tup h) (fun _ h => pi_str h)) (blkOk_by (by kernel_rfl)) (by decide) (fun _ _ _ _ _ _ => (g_tup rfl rfl (gs_cons (g_name (i := 4) nd rfl (by first | exact Or.inl rfl | exact Or.inr rfl) rfl) (gs_cons (g_name (i := 5) nd rfl (by first | exact Or.inl rfl | exact Or.inr rfl) rfl) gs_nil)))) (fun _ _ _ _ _ _ => (ts_one (b_cmp (opr_in rfl hu2) (o_var (i := 2) rfl (by first | exact Or.inl rfl | exact Or.inr (Or.inl rfl) | exact Or.inr (Or.inr rfl))) (o_var (i := 4) rfl (by first | exact Or.inl rfl | exact Or.inr (Or.inl rfl) | exact Or.inr (Or.inr rfl)))))) (fun _ _ _ _ _ _ => (s_var (i := 5) rfl (by first | exact Or.inl rfl | exact Or.inr (Or.inl rfl) | exact Or.inr (Or.inr rfl))))))))) (o_var (i := 3) rfl (by first | exact Or.inl rfl | exact Or.inr (Or.inl rfl) | exact Or.inr (Or.inr rfl)))) (k_cons (k_ret s_bl)
 k_nil) k_nil)
 k_nil))
 (k_cons (k_ret s_bl)
 k_nil)), h⟩
abbrev At_Code_prices (K : PySem.W.Frag) (fd : FuncData) : Prop := FunD K "prices" "Code.prices" (defArgs s_Code_prices) (defBody s_Code_prices) (defScope s_Code_prices) [] [] (He.fAd K ("Code", some "prices")) fd
theorem df_Code_prices (S : Sx K mg) : ∃ fd, At_Code_prices K fd := by
  obtain ⟨h, a, b, c⟩ := S.ex
  exact c.def_ 60 (d := d_Code_prices) rfl
theorem sc_Code_prices : FnScope ["self", "jump"] ["self"] (defScope s_Code_prices) := ⟨rfl, rfl, rfl, by decide +kernel, rfl, by decide +kernel, by decide +kernel⟩
theorem kb_Code_prices_26 {fd : FuncData} (F : At_Code_prices K fd) : KBn K fd ["self"] 1 [] (ordL [0]) (ordL [0]) := kbn_ord 1 [0] F (fun _ _ _ _ _ _ us ws h1 h2 => match us, ws, h1, h2 with | [_], [], _, _ => rfl)
theorem ok_Code_prices (S : Sx K mg) {fd : FuncData} (F : At_Code_prices K fd) : FnOk P w K mg base CX0 1 (He.fAd K ("Code", some "prices")) fd ["self"] (spF (Tc K) 1 f_Code_prices) := by
  refine F.ok sc_Code_prices (fun vs H Q E h => h.1) (fun cdv A outer s H vs Q E room h => ?_)
  obtain ⟨Y, h⟩ := fn_start (N := ["self", "jump"]) (n := 1) (m := 1) rfl h
  have hu : (A.deeper (envOfC "Code.prices" (defScope s_Code_prices) s.heap.objs.size (He.fAd K ("Code", some "prices")) cdv)).units + 64 < cLine := by have := room.un; omega
  have hu2 : (A.deeper (envOfC "Code.prices" (defScope s_Code_prices) s.heap.objs.size (He.fAd K ("Code", some "prices")) cdv)).units + 130 < cLine := by have := room.un; omega
  have hu0 : (A.deeper (envOfC "Code.prices" (defScope s_Code_prices) s.heap.objs.size (He.fAd K ("Code", some "prices")) cdv)).units < cLine := by omega
  have hu1 : (A.deeper (envOfC "Code.prices" (defScope s_Code_prices) s.heap.objs.size (He.fAd K ("Code", some "prices")) cdv)).units + 1 < cLine := by omega
  have nd := sc_Code_prices.nd
  exact ⟨_, (k_cons (k_ret (s_t1 (cr1_tuple rfl) rfl (n_tuple S) rfl (o_val (s_new (n_lc [("jump", 1)] rfl nd (i_seq rfl (s_fld (c := 0) rfl (cls_Code S) (na_Code_jumps S) (o_var (i := 0) rfl (by first | exact Or.inl rfl | exact Or.inr (Or.inl rfl) | exact Or.inr (Or.inr rfl)))) (fun _ h => pi_list h) (fun _ h => pi_tup h) (fun _ h => pi_str h)) (blkOk_by (by kernel_rfl)) (by decide) (fun _ _ _ _ _ _ => (g_name (i := 1) nd rfl (by first | exact Or.inl rfl | exact Or.inr rfl) rfl)) (fun _ _ _ _ _ _ => ts_nil) (fun _ _ _ _ _ _ => (s_ix rfl (o_var (i := 1) rfl (by first | exact Or.inl rfl | exact Or.inr (Or.inl rfl) | exact Or.inr (Or.inr rfl))) (o_val s_int))))))))
 k_nil), h⟩
end
end Wk
namespace Wk
open PySem PySem.Spec PyProof.Rows L2 Lc Hd
section
variable {P : Program} {w : World} {K : PySem.W.Frag} {mg : Str → Option Value} {base : Heap}
abbrev At_price_of (K : PySem.W.Frag) (fd : FuncData) : Prop := FunD K "price_of" "price_of" (defArgs s_price_of) (defBody s_price_of) (defScope s_price_of) [] [] (He.fAd K ("price_of", none)) fd
theorem df_price_of (S : Sx K mg) : ∃ fd, At_price_of K fd := by
  obtain ⟨h, a, b, c⟩ := S.ex
  exact c.def_ 39 (d := d_price_of) rfl
theorem sc_price_of : FnScope ["code"] ["code"] (defScope s_price_of) := ⟨rfl, rfl, rfl, by decide +kernel, rfl, by decide +kernel, by decide +kernel⟩
theorem kb_price_of_27 {fd : FuncData} (F : At_price_of K fd) : KBn K fd ["code"] 1 [] (ordL [0]) (ordL [0]) := kbn_ord 1 [0] F (fun _ _ _ _ _ _ us ws h1 h2 => match us, ws, h1, h2 with | [_], [], _, _ => rfl)
theorem ok_price_of (S : Sx K mg) {fd : FuncData} (F : At_price_of K fd) : FnOk P w K mg base CX0 3 (He.fAd K ("price_of", none)) fd ["code"] (spF (Tc K) 1 f_price_of) := by
  obtain ⟨fd_Code_prices, F_Code_prices⟩ := df_Code_prices S
  have G_Code_prices := ok_Code_prices (P := P) (w := w) (base := base) S F_Code_prices
  refine F.ok sc_price_of (fun vs H Q E h => h.1) (fun cdv A outer s H vs Q E room h => ?_)
  obtain ⟨Y, h⟩ := fn_start (N := ["code"]) (n := 1) (m := 0) rfl h
  have hu : (A.deeper (envOfC "price_of" (defScope s_price_of) s.heap.objs.size (He.fAd K ("price_of", none)) cdv)).units + 64 < cLine := by have := room.un; omega
  have hu2 : (A.deeper (envOfC "price_of" (defScope s_price_of) s.heap.objs.size (He.fAd K ("price_of", none)) cdv)).units + 130 < cLine := by have := room.un; omega
  have hu0 : (A.deeper (envOfC "price_of" (defScope s_price_of) s.heap.objs.size (He.fAd K ("price_of", none)) cdv)).units < cLine := by omega
  have hu1 : (A.deeper (envOfC "price_of" (defScope s_price_of) s.heap.objs.size (He.fAd K ("price_of", none)) cdv)).units + 1 < cLine := by omega
  have nd := sc_price_of.nd
  exact ⟨_, (k_cons (k_ret (s_dEnum rfl rfl rfl (n_dict S) rfl (n_enumerate S) (o_val (s_cl (c_mt0 (c := 0) rfl (a1_v (s_var (i := 0) rfl (by first | exact Or.inl rfl | exact Or.inr (Or.inl rfl) | exact Or.inr (Or.inr rfl)))) (cls_Code S) (me_Code_prices S) G_Code_prices (room.mono (by decide)) (kb_Code_prices_26 F_Code_prices) pa0 grel_ord (len_ord (by decide) rfl) kr_nil)))))
 k_nil), h⟩
abbrev At_is_pack (K : PySem.W.Frag) (fd : FuncData) : Prop := FunD K "is_pack" "is_pack" (defArgs s_is_pack) (defBody s_is_pack) (defScope s_is_pack) [] [] (He.fAd K ("is_pack", none)) fd
theorem df_is_pack (S : Sx K mg) : ∃ fd, At_is_pack K fd := by
  obtain ⟨h, a, b, c⟩ := S.ex
  exact c.def_ 44 (d := d_is_pack) rfl
theorem sc_is_pack : FnScope ["code", "thing", "one"] ["code", "thing"] (defScope s_is_pack) := ⟨rfl, rfl, rfl, by decide +kernel, rfl, by decide +kernel, by decide +kernel⟩
theorem kb_is_pack_31 {fd : FuncData} (F : At_is_pack K fd) : KBn K fd ["code", "thing"] 2 [] (ordL [0, 1]) (ordL [0, 1]) := kbn_ord 2 [0, 1] F (fun _ _ _ _ _ _ us ws h1 h2 => match us, ws, h1, h2 with | [_, _], [], _, _ => rfl)
theorem kb_is_pack_54 {fd : FuncData} (F : At_is_pack K fd) : KBn K fd ["code", "thing"] 0 ["thing", "code"] (ordL [1, 0]) (ordL [1, 0]) := kbn_ord 0 [1, 0] F (fun _ _ _ _ _ _ us ws h1 h2 => match us, ws, h1, h2 with | [], [_, _], _, _ => rfl)
theorem ok_is_pack (S : Sx K mg) {fd : FuncData} (F : At_is_pack K fd) : FnOk P w K mg base CX0 9 (He.fAd K ("is_pack", none)) fd ["code", "thing"] (spF (Tc K) 2 f_is_pack) := by
  obtain ⟨fd_are_packed, F_are_packed⟩ := df_are_packed S
  have G_are_packed := ok_are_packed (P := P) (w := w) (base := base) S F_are_packed
  obtain ⟨fd_are_rising, F_are_rising⟩ := df_are_rising S
  have G_are_rising := ok_are_rising (P := P) (w := w) (base := base) S F_are_rising
  obtain ⟨fd_is_loop, F_is_loop⟩ := df_is_loop S
  have G_is_loop := ok_is_loop (P := P) (w := w) (base := base) S F_is_loop
  obtain ⟨fd_is_number, F_is_number⟩ := df_is_number S
  have G_is_number := ok_is_number (P := P) (w := w) (base := base) S F_is_number
  obtain ⟨fd_price_of, F_price_of⟩ := df_price_of S
  have G_price_of := ok_price_of (P := P) (w := w) (base := base) S F_price_of
  refine F.ok sc_is_pack (fun vs H Q E h => h.1) (fun cdv A outer s H vs Q E room h => ?_)
  obtain ⟨Y, h⟩ := fn_start (N := ["code", "thing", "one"]) (n := 2) (m := 1) rfl h
  have hu : (A.deeper (envOfC "is_pack" (defScope s_is_pack) s.heap.objs.size (He.fAd K ("is_pack", none)) cdv)).units + 64 < cLine := by have := room.un; omega
  have hu2 : (A.deeper (envOfC "is_pack" (defScope s_is_pack) s.heap.objs.size (He.fAd K ("is_pack", none)) cdv)).units + 130 < cLine := by have := room.un; omega
  have hu0 : (A.deeper (envOfC "is_pack" (defScope s_is_pack) s.heap.objs.size (He.fAd K ("is_pack", none)) cdv)).units < cLine := by omega
  have hu1 : (A.deeper (envOfC "is_pack" (defScope s_is_pack) s.heap.objs.size (He.fAd K ("is_pack", none)) cdv)).units + 1 < cLine := by omega
  have nd := sc_is_pack.nd
  exact ⟨_, (k_cons (k_if (b_w (w_or (b_not (b_of (s_isi (n := 2) rfl (isc S) (by decide) rfl (n_isinstance S) (o_var (i := 1) rfl (by first | exact Or.inl rfl | exact Or.inr (Or.inl rfl) | exact Or.inr (Or.inr rfl))) (cls_b rfl (n_tuple S) rfl rfl)))) (w_or1 (b_not (b_of (s_b1 (cr1_all rfl rfl) rfl (n_all S) rfl (o_val (s_new (n_lc [("one", 2)] rfl nd (i_seq rfl (s_var (i := 1) rfl (by first | exact Or.inl rfl | exact Or.inr (Or.inl rfl) | exact Or.inr (Or.inr rfl))) (fun _ h => pi_list h) (fun _ h => pi_tup h) (fun _ h => pi_str h)) (blkOk_by (by kernel_rfl)) (by decide) (fun _ _ _ _ _ _ => (g_name (i := 2) nd rfl (by first | exact Or.inl rfl | exact Or.inr rfl) rfl)) (fun _ _ _ _ _ _ => ts_nil) (fun _ _ _ _ _ _ => (s_and (s_isi (n := 2) rfl (isc S) (by decide) rfl (n_isinstance S) (o_var (i := 2) rfl (by first | exact Or.inl rfl | exact Or.inr (Or.inl rfl) | exact Or.inr (Or.inr rfl))) (cls_b rfl (n_tuple S) rfl rfl)) (s_one (s_cmp (opr_eq rfl hu) (o_val (s_b1 (cr1_len rfl) rfl (n_len S) rfl (o_var (i := 2) rfl (by first | exact Or.inl rfl | exact Or.inr (Or.inl rfl) | exact Or.inr (Or.inr rfl))))) (o_val s_int)))))))))))))) (k_cons (k_ret s_bl)
 k_nil) k_nil)
 (k_cons (k_if (b_not (b_of (s_b1 (cr1_all rfl rfl) rfl (n_all S) rfl (o_val (s_new (n_lc [("one", 2)] rfl nd (i_seq rfl (s_var (i := 1) rfl (by first | exact Or.inl rfl | exact Or.inr (Or.inl rfl) | exact Or.inr (Or.inr rfl))) (fun _ h => pi_list h) (fun _ h => pi_tup h) (fun _ h => pi_str h)) (blkOk_by (by kernel_rfl)) (by decide) (fun _ _ _ _ _ _ => (g_name (i := 2) nd rfl (by first | exact Or.inl rfl | exact Or.inr rfl) rfl)) (fun _ _ _ _ _ _ => ts_nil) (fun _ _ _ _ _ _ => (s_and (s_cl (c_cl (n := 2) G_is_loop (room.mono (by decide)) rfl (n_is_loop S) F_is_loop.kp (kb_is_loop_15 F_is_loop) pa0 grel_ord (len_ord (by decide) rfl) (r_cons (s_var (i := 0) rfl (by first | exact Or.inl rfl | exact Or.inr (Or.inl rfl) | exact Or.inr (Or.inr rfl))) (r_cons (s_ix rfl (o_var (i := 2) rfl (by first | exact Or.inl rfl | exact Or.inr (Or.inl rfl) | exact Or.inr (Or.inr rfl))) (o_val s_int)) r_nil)) kr_nil)) (s_and (s_cl (c_cl (n := 1) G_is_number (room.mono (by decide)) rfl (n_is_number S) F_is_number.kp (kb_is_number_2 F_is_number) pa0 grel_ord (len_ord (by decide) rfl) (r_cons (s_ix rfl (o_var (i := 2) rfl (by first | exact Or.inl rfl | exact Or.inr (Or.inl rfl) | exact Or.inr (Or.inr rfl))) (o_val s_int)) r_nil) kr_nil)) (s_one (s_cmp (opr_gt) (o_val (s_ix rfl (o_var (i := 2) rfl (by first | exact Or.inl rfl | exact Or.inr (Or.inl rfl) | exact Or.inr (Or.inr rfl))) (o_val s_int))) (o_val s_int)))))))))))) (k_cons (k_ret s_bl)
 k_nil) k_nil)
 (k_cons (k_ret (s_and (s_cl (c_cl (n := 1) G_are_rising (room.mono (by decide)) rfl (n_are_rising S) F_are_rising.kp (kb_are_rising_1 F_are_rising) pa0 grel_ord (len_ord (by decide) rfl) (r_cons (s_new (n_lc [("one", 2)] rfl nd (i_seq rfl (s_var (i := 1) rfl (by first | exact Or.inl rfl | exact Or.inr (Or.inl rfl) | exact Or.inr (Or.inr rfl))) (fun _ h => pi_list h) (fun _ h => pi_tup h) (fun _ h => pi_str h)) (blkOk_by (by kernel_rfl)) (by decide) (fun _ _ _ _ _ _ => (g_name (i := 2) nd rfl (by first | exact Or.inl rfl | exact Or.inr rfl) rfl)) (fun _ _ _ _ _ _ => ts_nil) (fun _ _ _ _ _ _ => (s_ix rfl (o_var (i := 2) rfl (by first | exact Or.inl rfl | exact Or.inr (Or.inl rfl) | exact Or.inr (Or.inr rfl))) (o_val s_int))))) r_nil) kr_nil)) (s_one (s_cl (c_cl (n := 2) G_are_packed (room.mono (by decide)) rfl (n_are_packed S) F_are_packed.kp (kb_are_packed_28 F_are_packed) pa0 grel_ord (len_ord (by decide) rfl) (r_cons (s_var (i := 1) rfl (by first | exact Or.inl rfl | exact Or.inr (Or.inl rfl) | exact Or.inr (Or.inr rfl))) (r_cons (s_cl (c_cl (n := 1) G_price_of (room.mono (by decide)) rfl (n_price_of S) F_price_of.kp (kb_price_of_27 F_price_of) pa0 grel_ord (len_ord (by decide) rfl) (r_cons (s_var (i := 0) rfl (by first | exact Or.inl rfl | exact Or.inr (Or.inl rfl) | exact Or.inr (Or.inr rfl))) r_nil) kr_nil)) r_nil)) kr_nil)))))
 k_nil))), h⟩
abbrev At_meets_all (K : PySem.W.Frag) (fd : FuncData) : Prop := FunD K "meets_all" "meets_all" (defArgs s_meets_all) (defBody s_meets_all) (defScope s_meets_all) [] [] (He.fAd K ("meets_all", none)) fd
theorem df_meets_all (S : Sx K mg) : ∃ fd, At_meets_all K fd := by
  obtain ⟨h, a, b, c⟩ := S.ex
  exact c.def_ 35 (d := d_meets_all) rfl
theorem sc_meets_all : FnScope ["code", "lot", "loop", "number"] ["code", "lot"] (defScope s_meets_all) := ⟨rfl, rfl, rfl, by decide +kernel, rfl, by decide +kernel, by decide +kernel⟩
theorem kb_meets_all_33 {fd : FuncData} (F : At_meets_all K fd) : KBn K fd ["code", "lot"] 2 [] (ordL [0, 1]) (ordL [0, 1]) := kbn_ord 2 [0, 1] F (fun _ _ _ _ _ _ us ws h1 h2 => match us, ws, h1, h2 with | [_, _], [], _, _ => rfl)
theorem ok_meets_all (S : Sx K mg) {fd : FuncData} (F : At_meets_all K fd) : FnOk P w K mg base CX0 19 (He.fAd K ("meets_all", none)) fd ["code", "lot"] (spF (Tc K) 2 f_meets_all) := by
  obtain ⟨fd_loops, F_loops⟩ := df_loops S
  have G_loops := ok_loops (P := P) (w := w) (base := base) S F_loops
  refine F.ok sc_meets_all (fun vs H Q E h => h.1) (fun cdv A outer s H vs Q E room h => ?_)
  obtain ⟨Y, h⟩ := fn_start (N := ["code", "lot", "loop", "number"]) (n := 2) (m := 2) rfl h
  have hu : (A.deeper (envOfC "meets_all" (defScope s_meets_all) s.heap.objs.size (He.fAd K ("meets_all", none)) cdv)).units + 64 < cLine := by have := room.un; omega
  have hu2 : (A.deeper (envOfC "meets_all" (defScope s_meets_all) s.heap.objs.size (He.fAd K ("meets_all", none)) cdv)).units + 130 < cLine := by have := room.un; omega
  have hu0 : (A.deeper (envOfC "meets_all" (defScope s_meets_all) s.heap.objs.size (He.fAd K ("meets_all", none)) cdv)).units < cLine := by omega
  have hu1 : (A.deeper (envOfC "meets_all" (defScope s_meets_all) s.heap.objs.size (He.fAd K ("meets_all", none)) cdv)).units + 1 < cLine := by omega
  have nd := sc_meets_all.nd
  exact ⟨_, (k_cons (k_ret (s_b1 (cr1_all rfl rfl) rfl (n_all S) rfl (o_val (s_new (n_lc [("loop", 2)] rfl nd (i_seq rfl (s_cl (c_cl (n := 1) G_loops (room.mono (by decide)) rfl (n_loops S) F_loops.kp (kb_loops_29 F_loops) pa0 grel_ord (len_ord (by decide) rfl) (r_cons (s_var (i := 0) rfl (by first | exact Or.inl rfl | exact Or.inr (Or.inl rfl) | exact Or.inr (Or.inr rfl))) r_nil) kr_nil)) (fun _ h => pi_list h) (fun _ h => pi_tup h) (fun _ h => pi_str h)) (blkOk_by (by kernel_rfl)) (by decide) (fun _ _ _ _ _ _ => (g_name (i := 2) nd rfl (by first | exact Or.inl rfl | exact Or.inr rfl) rfl)) (fun _ _ _ _ _ _ => ts_nil) (fun _ _ _ _ _ _ => (s_b1 (cr1_any rfl rfl) rfl (n_any S) rfl (o_val (s_new (n_lc [("number", 3)] rfl nd (i_seq rfl (s_var (i := 2) rfl (by first | exact Or.inl rfl | exact Or.inr (Or.inl rfl) | exact Or.inr (Or.inr rfl))) (fun _ h => pi_list h) (fun _ h => pi_tup h) (fun _ h => pi_str h)) (blkOk_by (by kernel_rfl)) (by decide) (fun _ _ _ _ _ _ => (g_name (i := 3) nd rfl (by first | exact Or.inl rfl | exact Or.inr rfl) rfl)) (fun _ _ _ _ _ _ => ts_nil) (fun _ _ _ _ _ _ => (s_cmp (opr_in rfl hu2) (o_var (i := 3) rfl (by first | exact Or.inl rfl | exact Or.inr (Or.inl rfl) | exact Or.inr (Or.inr rfl))) (o_var (i := 1) rfl (by first | exact Or.inl rfl | exact Or.inr (Or.inl rfl) | exact Or.inr (Or.inr rfl)))))))))))))))
 k_nil), h⟩
abbrev At_check (K : PySem.W.Frag) (fd : FuncData) : Prop := FunD K "check" "check" (defArgs s_check) (defBody s_check) (defScope s_check) [] [] (He.fAd K ("check", none)) fd
theorem df_check (S : Sx K mg) : ∃ fd, At_check K fd := by
  obtain ⟨h, a, b, c⟩ := S.ex
  exact c.def_ 46 (d := d_check) rfl
theorem sc_check : FnScope ["code", "cut", "pack", "loop", "times"] ["code", "cut", "pack"] (defScope s_check) := ⟨rfl, rfl, rfl, by decide +kernel, rfl, by decide +kernel, by decide +kernel⟩
theorem kb_check_51 {fd : FuncData} (F : At_check K fd) : KBn K fd ["code", "cut", "pack"] 0 ["pack", "cut", "code"] (ordL [2, 1, 0]) (ordL [2, 1, 0]) := kbn_ord 0 [2, 1, 0] F (fun _ _ _ _ _ _ us ws h1 h2 => match us, ws, h1, h2 with | [], [_, _, _], _, _ => rfl)
theorem ok_check (S : Sx K mg) {fd : FuncData} (F : At_check K fd) : FnOk P w K mg base CX0 21 (He.fAd K ("check", none)) fd ["code", "cut", "pack"] (spF (Tc K) 3 f_check) := by
  obtain ⟨fd_cost_of, F_cost_of⟩ := df_cost_of S
  have G_cost_of := ok_cost_of (P := P) (w := w) (base := base) S F_cost_of
  obtain ⟨fd_is_lot, F_is_lot⟩ := df_is_lot S
  have G_is_lot := ok_is_lot (P := P) (w := w) (base := base) S F_is_lot
  obtain ⟨fd_is_pack, F_is_pack⟩ := df_is_pack S
  have G_is_pack := ok_is_pack (P := P) (w := w) (base := base) S F_is_pack
  obtain ⟨fd_meets_all, F_meets_all⟩ := df_meets_all S
  have G_meets_all := ok_meets_all (P := P) (w := w) (base := base) S F_meets_all
  refine F.ok sc_check (fun vs H Q E h => h.1) (fun cdv A outer s H vs Q E room h => ?_)
  obtain ⟨Y, h⟩ := fn_start (N := ["code", "cut", "pack", "loop", "times"]) (n := 3) (m := 2) rfl h
  have hu : (A.deeper (envOfC "check" (defScope s_check) s.heap.objs.size (He.fAd K ("check", none)) cdv)).units + 64 < cLine := by have := room.un; omega
  have hu2 : (A.deeper (envOfC "check" (defScope s_check) s.heap.objs.size (He.fAd K ("check", none)) cdv)).units + 130 < cLine := by have := room.un; omega
  have hu0 : (A.deeper (envOfC "check" (defScope s_check) s.heap.objs.size (He.fAd K ("check", none)) cdv)).units < cLine := by omega
  have hu1 : (A.deeper (envOfC "check" (defScope s_check) s.heap.objs.size (He.fAd K ("check", none)) cdv)).units + 1 < cLine := by omega
  have nd := sc_check.nd
  exact ⟨_, (k_cons (k_if (b_w (w_or (b_not (b_of (s_cl (c_cl (n := 2) G_is_lot (room.mono (by decide)) rfl (n_is_lot S) F_is_lot.kp (kb_is_lot_32 F_is_lot) pa0 grel_ord (len_ord (by decide) rfl) (r_cons (s_var (i := 0) rfl (by first | exact Or.inl rfl | exact Or.inr (Or.inl rfl) | exact Or.inr (Or.inr rfl))) (r_cons (s_var (i := 1) rfl (by first | exact Or.inl rfl | exact Or.inr (Or.inl rfl) | exact Or.inr (Or.inr rfl))) r_nil)) kr_nil)))) (w_or1 (b_not (b_of (s_cl (c_cl (n := 2) G_meets_all (room.mono (by decide)) rfl (n_meets_all S) F_meets_all.kp (kb_meets_all_33 F_meets_all) pa0 grel_ord (len_ord (by decide) rfl) (r_cons (s_var (i := 0) rfl (by first | exact Or.inl rfl | exact Or.inr (Or.inl rfl) | exact Or.inr (Or.inr rfl))) (r_cons (s_var (i := 1) rfl (by first | exact Or.inl rfl | exact Or.inr (Or.inl rfl) | exact Or.inr (Or.inr rfl))) r_nil)) kr_nil))))))) k_noB k_nil)
 (k_cons (k_if (b_not (b_of (s_cl (c_cl (n := 2) G_is_pack (room.mono (by decide)) rfl (n_is_pack S) F_is_pack.kp (kb_is_pack_31 F_is_pack) pa0 grel_ord (len_ord (by decide) rfl) (r_cons (s_var (i := 0) rfl (by first | exact Or.inl rfl | exact Or.inr (Or.inl rfl) | exact Or.inr (Or.inr rfl))) (r_cons (s_var (i := 2) rfl (by first | exact Or.inl rfl | exact Or.inr (Or.inl rfl) | exact Or.inr (Or.inr rfl))) r_nil)) kr_nil)))) k_noB k_nil)
 (k_cons (k_if (b_cmp (opr_ne rfl hu) (o_val (s_cl (c_cl (n := 2) G_cost_of (room.mono (by decide)) rfl (n_cost_of S) F_cost_of.kp (kb_cost_of_30 F_cost_of) pa0 grel_ord (len_ord (by decide) rfl) (r_cons (s_var (i := 0) rfl (by first | exact Or.inl rfl | exact Or.inr (Or.inl rfl) | exact Or.inr (Or.inr rfl))) (r_cons (s_var (i := 1) rfl (by first | exact Or.inl rfl | exact Or.inr (Or.inl rfl) | exact Or.inr (Or.inr rfl))) r_nil)) kr_nil))) (o_val (s_b1 (cr1_sum rfl rfl) rfl (n_sum S) rfl (o_val (s_new (n_lc [("loop", 3), ("times", 4)] rfl nd (i_seq rfl (s_var (i := 2) rfl (by first | exact Or.inl rfl | exact Or.inr (Or.inl rfl) | exact Or.inr (Or.inr rfl))) (fun _ h => pi_list h) (fun _ h => pi_tup h) (fun _ h => pi_str h)) (blkOk_by (by kernel_rfl)) (by decide) (fun _ _ _ _ _ _ => (g_tup rfl rfl (gs_cons (g_name (i := 3) nd rfl (by first | exact Or.inl rfl | exact Or.inr rfl) rfl) (gs_cons (g_name (i := 4) nd rfl (by first | exact Or.inl rfl | exact Or.inr rfl) rfl) gs_nil)))) (fun _ _ _ _ _ _ => ts_nil) (fun _ _ _ _ _ _ => (s_var (i := 4) rfl (by first | exact Or.inl rfl | exact Or.inr (Or.inl rfl) | exact Or.inr (Or.inr rfl)))))))))) k_noB k_nil)
 (k_cons (k_ret (s_cl (c_cl (n := 2) G_cost_of (room.mono (by decide)) rfl (n_cost_of S) F_cost_of.kp (kb_cost_of_30 F_cost_of) pa0 grel_ord (len_ord (by decide) rfl) (r_cons (s_var (i := 0) rfl (by first | exact Or.inl rfl | exact Or.inr (Or.inl rfl) | exact Or.inr (Or.inr rfl))) (r_cons (s_var (i := 1) rfl (by first | exact Or.inl rfl | exact Or.inr (Or.inl rfl) | exact Or.inr (Or.inr rfl))) r_nil)) kr_nil)))
 k_nil)))), h⟩
abbrev At_lumps_ahead (K : PySem.W.Frag) (fd : FuncData) : Prop := FunD K "lumps_ahead" "lumps_ahead" (defArgs s_lumps_ahead) (defBody s_lumps_ahead) (defScope s_lumps_ahead) [] [] (He.fAd K ("lumps_ahead", none)) fd
theorem df_lumps_ahead (S : Sx K mg) : ∃ fd, At_lumps_ahead K fd := by
  obtain ⟨h, a, b, c⟩ := S.ex
  exact c.def_ 22 (d := d_lumps_ahead) rfl
theorem sc_lumps_ahead : FnScope ["code", "lumps", "name", "found", "one", "other", "price"] ["code", "lumps", "name"] (defScope s_lumps_ahead) := ⟨rfl, rfl, rfl, by decide +kernel, rfl, by decide +kernel, by decide +kernel⟩
theorem kb_lumps_ahead_35 {fd : FuncData} (F : At_lumps_ahead K fd) : KBn K fd ["code", "lumps", "name"] 3 [] (ordL [0, 1, 2]) (ordL [0, 1, 2]) := kbn_ord 3 [0, 1, 2] F (fun _ _ _ _ _ _ us ws h1 h2 => match us, ws, h1, h2 with | [_, _, _], [], _, _ => rfl)
theorem ok_lumps_ahead (S : Sx K mg) {fd : FuncData} (F : At_lumps_ahead K fd) : FnOk P w K mg base CX0 1 (He.fAd K ("lumps_ahead", none)) fd ["code", "lumps", "name"] (spF (Tc K) 3 f_lumps_ahead) := by
  refine F.ok sc_lumps_ahead (fun vs H Q E h => h.1) (fun cdv A outer s H vs Q E room h => ?_)
  obtain ⟨Y, h⟩ := fn_start (N := ["code", "lumps", "name", "found", "one", "other", "price"]) (n := 3) (m := 4) rfl h
  have hu : (A.deeper (envOfC "lumps_ahead" (defScope s_lumps_ahead) s.heap.objs.size (He.fAd K ("lumps_ahead", none)) cdv)).units + 64 < cLine := by have := room.un; omega
  have hu2 : (A.deeper (envOfC "lumps_ahead" (defScope s_lumps_ahead) s.heap.objs.size (He.fAd K ("lumps_ahead", none)) cdv)).units + 130 < cLine := by have := room.un; omega
  have hu0 : (A.deeper (envOfC "lumps_ahead" (defScope s_lumps_ahead) s.heap.objs.size (He.fAd K ("lumps_ahead", none)) cdv)).units < cLine := by omega
  have hu1 : (A.deeper (envOfC "lumps_ahead" (defScope s_lumps_ahead) s.heap.objs.size (He.fAd K ("lumps_ahead", none)) cdv)).units + 1 < cLine := by omega
  have nd := sc_lumps_ahead.nd
  exact ⟨_, (k_cons (k_setLc [("one", 4), ("other", 5), ("price", 6)] rfl nd (i := 3) rfl rfl (by rfl) (i_seq rfl (s_fld (c := 0) rfl (cls_Code S) (na_Code_jumps S) (o_var (i := 0) rfl (by first | exact Or.inl rfl | exact Or.inr (Or.inl rfl) | exact Or.inr (Or.inr rfl)))) (fun _ h => pi_list h) (fun _ h => pi_tup h) (fun _ h => pi_str h)) (blkOk_by (by kernel_rfl)) (by decide) (fun _ _ _ _ _ _ => (g_tup rfl rfl (gs_cons (g_name (i := 4) nd rfl (by first | exact Or.inl rfl | exact Or.inr rfl) rfl) (gs_cons (g_name (i := 5) nd rfl (by first | exact Or.inl rfl | exact Or.inr rfl) rfl) (gs_cons (g_name (i := 6) nd rfl (by first | exact Or.inl rfl | exact Or.inr rfl) rfl) gs_nil))))) (fun _ _ _ _ _ _ => (ts_one (b_w (w_and (b_cmp (opr_eq rfl hu) (o_val (s_dget hu1 (o_var (i := 1) rfl (by first | exact Or.inl rfl | exact Or.inr (Or.inl rfl) | exact Or.inr (Or.inr rfl))) (o_var (i := 5) rfl (by first | exact Or.inl rfl | exact Or.inr (Or.inl rfl) | exact Or.inr (Or.inr rfl))))) (o_var (i := 2) rfl (by first | exact Or.inl rfl | exact Or.inr (Or.inl rfl) | exact Or.inr (Or.inr rfl)))) (w_and1 (b_cmp (opr_ne rfl hu) (o_val (s_dget hu1 (o_var (i := 1) rfl (by first | exact Or.inl rfl | exact Or.inr (Or.inl rfl) | exact Or.inr (Or.inr rfl))) (o_var (i := 4) rfl (by first | exact Or.inl rfl | exact Or.inr (Or.inl rfl) | exact Or.inr (Or.inr rfl))))) (o_var (i := 2) rfl (by first | exact Or.inl rfl | exact Or.inr (Or.inl rfl) | exact Or.inr (Or.inr rfl))))))))) (fun _ _ _ _ _ _ => (s_dget hu1 (o_var (i := 1) rfl (by first | exact Or.inl rfl | exact Or.inr (Or.inl rfl) | exact Or.inr (Or.inr rfl))) (o_var (i := 4) rfl (by first | exact Or.inl rfl | exact Or.inr (Or.inl rfl) | exact Or.inr (Or.inr rfl))))))
 (k_cons (k_ret (n_srtSet rfl rfl rfl (n_sorted S) rfl (n_set S) (o_var (i := 3) rfl (by first | exact Or.inl rfl | exact Or.inr (Or.inl rfl) | exact Or.inr (Or.inr rfl)))))
 k_nil)), h⟩
abbrev At_put_into (K : PySem.W.Frag) (fd : FuncData) : Prop := FunD K "put_into" "put_into" (defArgs s_put_into) (defBody s_put_into) (defScope s_put_into) [] [] (He.fAd K ("put_into", none)) fd
theorem df_put_into (S : Sx K mg) : ∃ fd, At_put_into K fd := by
  obtain ⟨h, a, b, c⟩ := S.ex
  exact c.def_ 23 (d := d_put_into) rfl
theorem sc_put_into : FnScope ["lumps", "place", "other", "one", "name"] ["lumps", "place", "other"] (defScope s_put_into) := ⟨rfl, rfl, rfl, by decide +kernel, rfl, by decide +kernel, by decide +kernel⟩
theorem kb_put_into_34 {fd : FuncData} (F : At_put_into K fd) : KBn K fd ["lumps", "place", "other"] 3 [] (ordL [0, 1, 2]) (ordL [0, 1, 2]) := kbn_ord 3 [0, 1, 2] F (fun _ _ _ _ _ _ us ws h1 h2 => match us, ws, h1, h2 with | [_, _, _], [], _, _ => rfl)
theorem ok_put_into (S : Sx K mg) {fd : FuncData} (F : At_put_into K fd) : FnOk P w K mg base CX0 1 (He.fAd K ("put_into", none)) fd ["lumps", "place", "other"] (spF (Tc K) 3 f_put_into) := by
  refine F.ok sc_put_into (fun vs H Q E h => h.1) (fun cdv A outer s H vs Q E room h => ?_)
  obtain ⟨Y, h⟩ := fn_start (N := ["lumps", "place", "other", "one", "name"]) (n := 3) (m := 2) rfl h
  have hu : (A.deeper (envOfC "put_into" (defScope s_put_into) s.heap.objs.size (He.fAd K ("put_into", none)) cdv)).units + 64 < cLine := by have := room.un; omega
  have hu2 : (A.deeper (envOfC "put_into" (defScope s_put_into) s.heap.objs.size (He.fAd K ("put_into", none)) cdv)).units + 130 < cLine := by have := room.un; omega
  have hu0 : (A.deeper (envOfC "put_into" (defScope s_put_into) s.heap.objs.size (He.fAd K ("put_into", none)) cdv)).units < cLine := by omega
  have hu1 : (A.deeper (envOfC "put_into" (defScope s_put_into) s.heap.objs.size (He.fAd K ("put_into", none)) cdv)).units + 1 < cLine := by omega
  have nd := sc_put_into.nd
  exact ⟨_, (k_cons (k_ret (s_new (n_dc [("one", 3), ("name", 4)] rfl nd (i_items (s_var (i := 0) rfl (by first | exact Or.inl rfl | exact Or.inr (Or.inl rfl) | exact Or.inr (Or.inr rfl)))) (blkOk_by (by kernel_rfl)) (by decide) (fun _ _ _ _ _ _ => (g_tup rfl rfl (gs_cons (g_name (i := 3) nd rfl (by first | exact Or.inl rfl | exact Or.inr rfl) rfl) (gs_cons (g_name (i := 4) nd rfl (by first | exact Or.inl rfl | exact Or.inr rfl) rfl) gs_nil)))) (fun _ _ _ _ _ _ => ts_nil) (fun _ _ _ _ _ _ => (s_var (i := 3) rfl (by first | exact Or.inl rfl | exact Or.inr (Or.inl rfl) | exact Or.inr (Or.inr rfl)))) (fun _ _ _ _ _ _ => (s_ite (b_cmp (opr_eq rfl hu) (o_var (i := 4) rfl (by first | exact Or.inl rfl | exact Or.inr (Or.inl rfl) | exact Or.inr (Or.inr rfl))) (o_var (i := 1) rfl (by first | exact Or.inl rfl | exact Or.inr (Or.inl rfl) | exact Or.inr (Or.inr rfl)))) (s_var (i := 2) rfl (by first | exact Or.inl rfl | exact Or.inr (Or.inl rfl) | exact Or.inr (Or.inr rfl))) (s_var (i := 4) rfl (by first | exact Or.inl rfl | exact Or.inr (Or.inl rfl) | exact Or.inr (Or.inr rfl))))))))
 k_nil), h⟩
abbrev At_check_foldings (K : PySem.W.Frag) (fd : FuncData) : Prop := FunD K "check_foldings" "check_foldings" (defArgs s_check_foldings) (defBody s_check_foldings) (defScope s_check_foldings) [] [] (He.fAd K ("check_foldings", none)) fd
theorem df_check_foldings (S : Sx K mg) : ∃ fd, At_check_foldings K fd := by
  obtain ⟨h, a, b, c⟩ := S.ex
  exact c.def_ 27 (d := d_check_foldings) rfl
theorem sc_check_foldings : FnScope ["code", "thing", "lumps", "place", "other", "names", "one"] ["code", "thing"] (defScope s_check_foldings) := ⟨rfl, rfl, rfl, by decide +kernel, rfl, by decide +kernel, by decide +kernel⟩
theorem kb_check_foldings_38 {fd : FuncData} (F : At_check_foldings K fd) : KBn K fd ["code", "thing"] 2 [] (ordL [0, 1]) (ordL [0, 1]) := kbn_ord 2 [0, 1] F (fun _ _ _ _ _ _ us ws h1 h2 => match us, ws, h1, h2 with | [_, _], [], _, _ => rfl)
theorem ok_check_foldings (S : Sx K mg) {fd : FuncData} (F : At_check_foldings K fd) : FnOk P w K mg base CX0 3 (He.fAd K ("check_foldings", none)) fd ["code", "thing"] (spF (Tc K) 2 f_check_foldings) := by
  obtain ⟨fd_is_place, F_is_place⟩ := df_is_place S
  have G_is_place := ok_is_place (P := P) (w := w) (base := base) S F_is_place
  obtain ⟨fd_lumps_ahead, F_lumps_ahead⟩ := df_lumps_ahead S
  have G_lumps_ahead := ok_lumps_ahead (P := P) (w := w) (base := base) S F_lumps_ahead
  obtain ⟨fd_put_into, F_put_into⟩ := df_put_into S
  have G_put_into := ok_put_into (P := P) (w := w) (base := base) S F_put_into
  refine F.ok sc_check_foldings (fun vs H Q E h => h.1) (fun cdv A outer s H vs Q E room h => ?_)
  obtain ⟨Y, h⟩ := fn_start (N := ["code", "thing", "lumps", "place", "other", "names", "one"]) (n := 2) (m := 5) rfl h
  have hu : (A.deeper (envOfC "check_foldings" (defScope s_check_foldings) s.heap.objs.size (He.fAd K ("check_foldings", none)) cdv)).units + 64 < cLine := by have := room.un; omega
  have hu2 : (A.deeper (envOfC "check_foldings" (defScope s_check_foldings) s.heap.objs.size (He.fAd K ("check_foldings", none)) cdv)).units + 130 < cLine := by have := room.un; omega
  have hu0 : (A.deeper (envOfC "check_foldings" (defScope s_check_foldings) s.heap.objs.size (He.fAd K ("check_foldings", none)) cdv)).units < cLine := by omega
  have hu1 : (A.deeper (envOfC "check_foldings" (defScope s_check_foldings) s.heap.objs.size (He.fAd K ("check_foldings", none)) cdv)).units + 1 < cLine := by omega
  have nd := sc_check_foldings.nd
  exact ⟨_, (k_cons (k_if (b_w (w_or (b_not (b_of (s_isi (n := 2) rfl (isc S) (by decide) rfl (n_isinstance S) (o_var (i := 1) rfl (by first | exact Or.inl rfl | exact Or.inr (Or.inl rfl) | exact Or.inr (Or.inr rfl))) (cls_b rfl (n_tuple S) rfl rfl)))) (w_or1 (b_not (b_of (s_b1 (cr1_all rfl rfl) rfl (n_all S) rfl (o_val (s_new (n_lc [("one", 6)] rfl nd (i_seq rfl (s_var (i := 1) rfl (by first | exact Or.inl rfl | exact Or.inr (Or.inl rfl) | exact Or.inr (Or.inr rfl))) (fun _ h => pi_list h) (fun _ h => pi_tup h) (fun _ h => pi_str h)) (blkOk_by (by kernel_rfl)) (by decide) (fun _ _ _ _ _ _ => (g_name (i := 6) nd rfl (by first | exact Or.inl rfl | exact Or.inr rfl) rfl)) (fun _ _ _ _ _ _ => ts_nil) (fun _ _ _ _ _ _ => (s_and (s_isi (n := 2) rfl (isc S) (by decide) rfl (n_isinstance S) (o_var (i := 6) rfl (by first | exact Or.inl rfl | exact Or.inr (Or.inl rfl) | exact Or.inr (Or.inr rfl))) (cls_b rfl (n_tuple S) rfl rfl)) (s_one (s_cmp (opr_eq rfl hu) (o_val (s_b1 (cr1_len rfl) rfl (n_len S) rfl (o_var (i := 6) rfl (by first | exact Or.inl rfl | exact Or.inr (Or.inl rfl) | exact Or.inr (Or.inr rfl))))) (o_val s_int)))))))))))))) k_noB k_nil)
 (k_cons (k_setDc [("place", 3)] rfl nd (i := 2) rfl rfl (by rfl) (i_seq rfl (s_fld (c := 0) rfl (cls_Code S) (na_Code_places S) (o_var (i := 0) rfl (by first | exact Or.inl rfl | exact Or.inr (Or.inl rfl) | exact Or.inr (Or.inr rfl)))) (fun _ h => pi_list h) (fun _ h => pi_tup h) (fun _ h => pi_str h)) (blkOk_by (by kernel_rfl)) (by decide) (fun _ _ _ _ _ _ => (g_name (i := 3) nd rfl (by first | exact Or.inl rfl | exact Or.inr rfl) rfl)) (fun _ _ _ _ _ _ => ts_nil) (fun _ _ _ _ _ _ => (s_var (i := 3) rfl (by first | exact Or.inl rfl | exact Or.inr (Or.inl rfl) | exact Or.inr (Or.inr rfl)))) (fun _ _ _ _ _ _ => (s_var (i := 3) rfl (by first | exact Or.inl rfl | exact Or.inr (Or.inl rfl) | exact Or.inr (Or.inr rfl)))))
 (k_cons (k_for (passes_of rfl) rfl (i_seq rfl (s_var (i := 1) rfl (by first | exact Or.inl rfl | exact Or.inr (Or.inl rfl) | exact Or.inr (Or.inr rfl))) (fun _ h => pi_list h) (fun _ h => pi_tup h) (fun _ h => pi_str h)) (g_tup rfl rfl (gs_cons (g_name (i := 3) nd rfl (by first | exact Or.inl rfl | exact Or.inr rfl) rfl) (gs_cons (g_name (i := 4) nd rfl (by first | exact Or.inl rfl | exact Or.inr rfl) rfl) gs_nil))) (k_cons (k_set (i := 5) nd rfl (by first | exact Or.inl rfl | exact Or.inr rfl) (s_listVals rfl rfl (n_list S) (o_var (i := 2) rfl (by first | exact Or.inl rfl | exact Or.inr (Or.inl rfl) | exact Or.inr (Or.inr rfl)))))
 (k_cons (k_if (b_w (w_or (b_not (b_of (s_cl (c_cl (n := 2) G_is_place (room.mono (by decide)) rfl (n_is_place S) F_is_place.kp (kb_is_place_4 F_is_place) pa0 grel_ord (len_ord (by decide) rfl) (r_cons (s_var (i := 5) rfl (by first | exact Or.inl rfl | exact Or.inr (Or.inl rfl) | exact Or.inr (Or.inr rfl))) (r_cons (s_var (i := 3) rfl (by first | exact Or.inl rfl | exact Or.inr (Or.inl rfl) | exact Or.inr (Or.inr rfl))) r_nil)) kr_nil)))) (w_or (b_not (b_of (s_cl (c_cl (n := 2) G_is_place (room.mono (by decide)) rfl (n_is_place S) F_is_place.kp (kb_is_place_4 F_is_place) pa0 grel_ord (len_ord (by decide) rfl) (r_cons (s_var (i := 5) rfl (by first | exact Or.inl rfl | exact Or.inr (Or.inl rfl) | exact Or.inr (Or.inr rfl))) (r_cons (s_var (i := 4) rfl (by first | exact Or.inl rfl | exact Or.inr (Or.inl rfl) | exact Or.inr (Or.inr rfl))) r_nil)) kr_nil)))) (w_or1 (b_cmp (opr_in rfl hu2) (o_var (i := 3) rfl (by first | exact Or.inl rfl | exact Or.inr (Or.inl rfl) | exact Or.inr (Or.inr rfl))) (o_val (s_tup (a_cons (s_var (i := 4) rfl (by first | exact Or.inl rfl | exact Or.inr (Or.inl rfl) | exact Or.inr (Or.inr rfl))) (a_cons (s_fld (c := 0) rfl (cls_Code S) (na_Code_door S) (o_var (i := 0) rfl (by first | exact Or.inl rfl | exact Or.inr (Or.inl rfl) | exact Or.inr (Or.inr rfl)))) a_nil))))))))) k_noB k_nil)
 (k_cons (k_if (b_cmp (opr_ne rfl hu) (o_val (s_cl (c_cl (n := 3) G_lumps_ahead (room.mono (by decide)) rfl (n_lumps_ahead S) F_lumps_ahead.kp (kb_lumps_ahead_35 F_lumps_ahead) pa0 grel_ord (len_ord (by decide) rfl) (r_cons (s_var (i := 0) rfl (by first | exact Or.inl rfl | exact Or.inr (Or.inl rfl) | exact Or.inr (Or.inr rfl))) (r_cons (s_var (i := 2) rfl (by first | exact Or.inl rfl | exact Or.inr (Or.inl rfl) | exact Or.inr (Or.inr rfl))) (r_cons (s_var (i := 3) rfl (by first | exact Or.inl rfl | exact Or.inr (Or.inl rfl) | exact Or.inr (Or.inr rfl))) r_nil))) kr_nil))) (o_val (s_lst (a_cons (s_var (i := 4) rfl (by first | exact Or.inl rfl | exact Or.inr (Or.inl rfl) | exact Or.inr (Or.inr rfl))) a_nil)))) k_noB k_nil)
 (k_cons (k_set (i := 2) nd rfl (by first | exact Or.inl rfl | exact Or.inr rfl) (s_cl (c_cl (n := 3) G_put_into (room.mono (by decide)) rfl (n_put_into S) F_put_into.kp (kb_put_into_34 F_put_into) pa0 grel_ord (len_ord (by decide) rfl) (r_cons (s_var (i := 2) rfl (by first | exact Or.inl rfl | exact Or.inr (Or.inl rfl) | exact Or.inr (Or.inr rfl))) (r_cons (s_var (i := 3) rfl (by first | exact Or.inl rfl | exact Or.inr (Or.inl rfl) | exact Or.inr (Or.inr rfl))) (r_cons (s_var (i := 4) rfl (by first | exact Or.inl rfl | exact Or.inr (Or.inl rfl) | exact Or.inr (Or.inr rfl))) r_nil))) kr_nil)))
 k_nil)))))
 (k_cons (k_if (b_cmp (opr_gt) (o_val (s_lenSet rfl rfl rfl (n_len S) rfl (n_set S) (o_val (s_listVals rfl rfl (n_list S) (o_var (i := 2) rfl (by first | exact Or.inl rfl | exact Or.inr (Or.inl rfl) | exact Or.inr (Or.inr rfl))))))) (o_val s_int)) k_noB k_nil)
 k_nil)))), h⟩
abbrev At_end_on (K : PySem.W.Frag) (fd : FuncData) : Prop := FunD K "end_on" "end_on" (defArgs s_end_on) (defBody s_end_on) (defScope s_end_on) [] [] (He.fAd K ("end_on", none)) fd
theorem df_end_on (S : Sx K mg) : ∃ fd, At_end_on K fd := by
  obtain ⟨h, a, b, c⟩ := S.ex
  exact c.def_ 28 (d := d_end_on) rfl
theorem sc_end_on : FnScope ["code", "loop", "thing", "end", "places", "place"] ["code", "loop", "thing"] (defScope s_end_on) := ⟨rfl, rfl, rfl, by decide +kernel, rfl, by decide +kernel, by decide +kernel⟩
theorem kb_end_on_37 {fd : FuncData} (F : At_end_on K fd) : KBn K fd ["code", "loop", "thing"] 3 [] (ordL [0, 1, 2]) (ordL [0, 1, 2]) := kbn_ord 3 [0, 1, 2] F (fun _ _ _ _ _ _ us ws h1 h2 => match us, ws, h1, h2 with | [_, _, _], [], _, _ => rfl)
theorem ok_end_on (S : Sx K mg) {fd : FuncData} (F : At_end_on K fd) : FnOk P w K mg base CX0 9 (He.fAd K ("end_on", none)) fd ["code", "loop", "thing"] (spF (Tc K) 3 f_end_on) := by
  obtain ⟨fd_are_numbers, F_are_numbers⟩ := df_are_numbers S
  have G_are_numbers := ok_are_numbers (P := P) (w := w) (base := base) S F_are_numbers
  obtain ⟨fd_is_way, F_is_way⟩ := df_is_way S
  have G_is_way := ok_is_way (P := P) (w := w) (base := base) S F_is_way
  obtain ⟨fd_starts_of, F_starts_of⟩ := df_starts_of S
  have G_starts_of := ok_starts_of (P := P) (w := w) (base := base) S F_starts_of
  refine F.ok sc_end_on (fun vs H Q E h => h.1) (fun cdv A outer s H vs Q E room h => ?_)
  obtain ⟨Y, h⟩ := fn_start (N := ["code", "loop", "thing", "end", "places", "place"]) (n := 3) (m := 3) rfl h
  have hu : (A.deeper (envOfC "end_on" (defScope s_end_on) s.heap.objs.size (He.fAd K ("end_on", none)) cdv)).units + 64 < cLine := by have := room.un; omega
  have hu2 : (A.deeper (envOfC "end_on" (defScope s_end_on) s.heap.objs.size (He.fAd K ("end_on", none)) cdv)).units + 130 < cLine := by have := room.un; omega
  have hu0 : (A.deeper (envOfC "end_on" (defScope s_end_on) s.heap.objs.size (He.fAd K ("end_on", none)) cdv)).units < cLine := by omega
  have hu1 : (A.deeper (envOfC "end_on" (defScope s_end_on) s.heap.objs.size (He.fAd K ("end_on", none)) cdv)).units + 1 < cLine := by omega
  have nd := sc_end_on.nd
  exact ⟨_, (k_cons (k_if (b_not (b_of (s_cl (c_cl (n := 2) G_are_numbers (room.mono (by decide)) rfl (n_are_numbers S) F_are_numbers.kp (kb_are_numbers_13 F_are_numbers) pa0 grel_ord (len_ord (by decide) rfl) (r_cons (s_var (i := 0) rfl (by first | exact Or.inl rfl | exact Or.inr (Or.inl rfl) | exact Or.inr (Or.inr rfl))) (r_cons (s_var (i := 2) rfl (by first | exact Or.inl rfl | exact Or.inr (Or.inl rfl) | exact Or.inr (Or.inr rfl))) r_nil)) kr_nil)))) (k_cons (k_ret s_non)
 k_nil) k_nil)
 (k_cons (k_set (i := 3) nd rfl (by first | exact Or.inl rfl | exact Or.inr rfl) (s_ite (b_cmp (opr_eq rfl hu) (o_var (i := 2) rfl (by first | exact Or.inl rfl | exact Or.inr (Or.inl rfl) | exact Or.inr (Or.inr rfl))) (o_val (s_tup a_nil))) (s_fld (c := 0) rfl (cls_Code S) (na_Code_door S) (o_var (i := 0) rfl (by first | exact Or.inl rfl | exact Or.inr (Or.inl rfl) | exact Or.inr (Or.inr rfl)))) (s_ix rfl (o_val (s_ix rfl (o_val (s_fld (c := 0) rfl (cls_Code S) (na_Code_jumps S) (o_var (i := 0) rfl (by first | exact Or.inl rfl | exact Or.inr (Or.inl rfl) | exact Or.inr (Or.inr rfl))))) (o_val (s_ix rfl (o_var (i := 2) rfl (by first | exact Or.inl rfl | exact Or.inr (Or.inl rfl) | exact Or.inr (Or.inr rfl))) (o_val (s_neg (o_val s_int))))))) (o_val s_int))))
 (k_cons (k_set (i := 4) nd rfl (by first | exact Or.inl rfl | exact Or.inr rfl) (s_cl (c_cl (n := 2) G_starts_of (room.mono (by decide)) rfl (n_starts_of S) F_starts_of.kp (kb_starts_of_12 F_starts_of) pa0 grel_ord (len_ord (by decide) rfl) (r_cons (s_var (i := 0) rfl (by first | exact Or.inl rfl | exact Or.inr (Or.inl rfl) | exact Or.inr (Or.inr rfl))) (r_cons (s_var (i := 1) rfl (by first | exact Or.inl rfl | exact Or.inr (Or.inl rfl) | exact Or.inr (Or.inr rfl))) r_nil)) kr_nil)))
 (k_cons (k_if (b_w (w_or (b_not (b_of (s_cl (c_cl (n := 4) G_is_way (room.mono (by decide)) rfl (n_is_way S) F_is_way.kp (kb_is_way_36 F_is_way) pa0 grel_ord (len_ord (by decide) rfl) (r_cons (s_var (i := 0) rfl (by first | exact Or.inl rfl | exact Or.inr (Or.inl rfl) | exact Or.inr (Or.inr rfl))) (r_cons (s_fld (c := 0) rfl (cls_Code S) (na_Code_door S) (o_var (i := 0) rfl (by first | exact Or.inl rfl | exact Or.inr (Or.inl rfl) | exact Or.inr (Or.inr rfl)))) (r_cons (s_var (i := 3) rfl (by first | exact Or.inl rfl | exact Or.inr (Or.inl rfl) | exact Or.inr (Or.inr rfl))) (r_cons (s_var (i := 2) rfl (by first | exact Or.inl rfl | exact Or.inr (Or.inl rfl) | exact Or.inr (Or.inr rfl))) r_nil)))) kr_nil)))) (w_or1 (b_cmp (opr_nin rfl hu2) (o_var (i := 3) rfl (by first | exact Or.inl rfl | exact Or.inr (Or.inl rfl) | exact Or.inr (Or.inr rfl))) (o_var (i := 4) rfl (by first | exact Or.inl rfl | exact Or.inr (Or.inl rfl) | exact Or.inr (Or.inr rfl))))))) (k_cons (k_ret s_non)
 k_nil) k_nil)
 (k_cons (k_ret (s_ite (b_not (b_of (s_b1 (cr1_any rfl rfl) rfl (n_any S) rfl (o_val (s_new (n_lc [("place", 5)] rfl nd (i_seq rfl (s_cl (c_cl (n := 2) G_starts_of (room.mono (by decide)) rfl (n_starts_of S) F_starts_of.kp (kb_starts_of_12 F_starts_of) pa0 grel_ord (len_ord (by decide) rfl) (r_cons (s_var (i := 0) rfl (by first | exact Or.inl rfl | exact Or.inr (Or.inl rfl) | exact Or.inr (Or.inr rfl))) (r_cons (s_var (i := 2) rfl (by first | exact Or.inl rfl | exact Or.inr (Or.inl rfl) | exact Or.inr (Or.inr rfl))) r_nil)) kr_nil)) (fun _ h => pi_list h) (fun _ h => pi_tup h) (fun _ h => pi_str h)) (blkOk_by (by kernel_rfl)) (by decide) (fun _ _ _ _ _ _ => (g_name (i := 5) nd rfl (by first | exact Or.inl rfl | exact Or.inr rfl) rfl)) (fun _ _ _ _ _ _ => ts_nil) (fun _ _ _ _ _ _ => (s_cmp (opr_in rfl hu2) (o_var (i := 5) rfl (by first | exact Or.inl rfl | exact Or.inr (Or.inl rfl) | exact Or.inr (Or.inr rfl))) (o_var (i := 4) rfl (by first | exact Or.inl rfl | exact Or.inr (Or.inl rfl) | exact Or.inr (Or.inr rfl))))))))))) (s_var (i := 3) rfl (by first | exact Or.inl rfl | exact Or.inr (Or.inl rfl) | exact Or.inr (Or.inr rfl))) s_non))
 k_nil))))), h⟩
end
end Wk
namespace Wk
open PySem PySem.Spec PyProof.Rows L2 Lc Hd
section
variable {P : Program} {w : World} {K : PySem.W.Frag} {mg : Str → Option Value} {base : Heap}
abbrev At_check_doors (K : PySem.W.Frag) (fd : FuncData) : Prop := FunD K "check_doors" "check_doors" (defArgs s_check_doors) (defBody s_check_doors) (defScope s_check_doors) [] [] (He.fAd K ("check_doors", none)) fd
theorem df_check_doors (S : Sx K mg) : ∃ fd, At_check_doors K fd := by
  obtain ⟨h, a, b, c⟩ := S.ex
  exact c.def_ 29 (d := d_check_doors) rfl
theorem sc_check_doors : FnScope ["code", "paper", "word", "loop", "way", "other", "first"] ["code", "paper"] (defScope s_check_doors) := ⟨rfl, rfl, rfl, by decide +kernel, rfl, by decide +kernel, by decide +kernel⟩
theorem kb_check_doors_59 {fd : FuncData} (F : At_check_doors K fd) : KBn K fd ["code", "paper"] 0 ["paper", "code"] (ordL [1, 0]) (ordL [1, 0]) := kbn_ord 0 [1, 0] F (fun _ _ _ _ _ _ us ws h1 h2 => match us, ws, h1, h2 with | [], [_, _], _, _ => rfl)
theorem ok_check_doors (S : Sx K mg) {fd : FuncData} (F : At_check_doors K fd) : FnOk P w K mg base CX0 11 (He.fAd K ("check_doors", none)) fd ["code", "paper"] (spF (Tc K) 2 f_check_doors) := by
  obtain ⟨fd_check_foldings, F_check_foldings⟩ := df_check_foldings S
  have G_check_foldings := ok_check_foldings (P := P) (w := w) (base := base) S F_check_foldings
  obtain ⟨fd_end_on, F_end_on⟩ := df_end_on S
  have G_end_on := ok_end_on (P := P) (w := w) (base := base) S F_end_on
  obtain ⟨fd_is_loop, F_is_loop⟩ := df_is_loop S
  have G_is_loop := ok_is_loop (P := P) (w := w) (base := base) S F_is_loop
  refine F.ok sc_check_doors (fun vs H Q E h => h.1) (fun cdv A outer s H vs Q E room h => ?_)
  obtain ⟨Y, h⟩ := fn_start (N := ["code", "paper", "word", "loop", "way", "other", "first"]) (n := 2) (m := 5) rfl h
  have hu : (A.deeper (envOfC "check_doors" (defScope s_check_doors) s.heap.objs.size (He.fAd K ("check_doors", none)) cdv)).units + 64 < cLine := by have := room.un; omega
  have hu2 : (A.deeper (envOfC "check_doors" (defScope s_check_doors) s.heap.objs.size (He.fAd K ("check_doors", none)) cdv)).units + 130 < cLine := by have := room.un; omega
  have hu0 : (A.deeper (envOfC "check_doors" (defScope s_check_doors) s.heap.objs.size (He.fAd K ("check_doors", none)) cdv)).units < cLine := by omega
  have hu1 : (A.deeper (envOfC "check_doors" (defScope s_check_doors) s.heap.objs.size (He.fAd K ("check_doors", none)) cdv)).units + 1 < cLine := by omega
  have nd := sc_check_doors.nd
  exact ⟨_, (k_cons (k_if (b_w (w_or (b_not (b_of (s_isi (n := 2) rfl (isc S) (by decide) rfl (n_isinstance S) (o_var (i := 1) rfl (by first | exact Or.inl rfl | exact Or.inr (Or.inl rfl) | exact Or.inr (Or.inr rfl))) (cls_b rfl (n_tuple S) rfl rfl)))) (w_or (b_cmp (opr_eq rfl hu) (o_var (i := 1) rfl (by first | exact Or.inl rfl | exact Or.inr (Or.inl rfl) | exact Or.inr (Or.inr rfl))) (o_val (s_tup a_nil))) (w_or1 (b_not (b_of (s_isi (n := 2) rfl (isc S) (by decide) rfl (n_isinstance S) (o_val (s_ix rfl (o_var (i := 1) rfl (by first | exact Or.inl rfl | exact Or.inr (Or.inl rfl) | exact Or.inr (Or.inr rfl))) (o_val s_int))) (cls_b rfl (n_str S) rfl rfl)))))))) k_noB k_nil)
 (k_cons (k_if (b_cmp (opr_nin rfl hu2) (o_val (s_tup (a_cons (s_ix rfl (o_var (i := 1) rfl (by first | exact Or.inl rfl | exact Or.inr (Or.inl rfl) | exact Or.inr (Or.inr rfl))) (o_val s_int)) (a_cons (s_b1 (cr1_len rfl) rfl (n_len S) rfl (o_var (i := 1) rfl (by first | exact Or.inl rfl | exact Or.inr (Or.inl rfl) | exact Or.inr (Or.inr rfl)))) a_nil)))) (o_val (s_tup (a_cons (s_tup (a_cons (s_gS rfl (n_ONE S)) (a_cons s_int a_nil))) (a_cons (s_tup (a_cons (s_gS rfl (n_SEVERAL S)) (a_cons s_int a_nil))) a_nil))))) k_noB k_nil)
 (k_cons (k_if (b_cmp (opr_eq rfl hu) (o_val (s_ix rfl (o_var (i := 1) rfl (by first | exact Or.inl rfl | exact Or.inr (Or.inl rfl) | exact Or.inr (Or.inr rfl))) (o_val s_int))) (o_val (s_gS rfl (n_ONE S)))) (k_cons (k_ex (s_cl (c_cl (n := 2) G_check_foldings (room.mono (by decide)) rfl (n_check_foldings S) F_check_foldings.kp (kb_check_foldings_38 F_check_foldings) pa0 grel_ord (len_ord (by decide) rfl) (r_cons (s_var (i := 0) rfl (by first | exact Or.inl rfl | exact Or.inr (Or.inl rfl) | exact Or.inr (Or.inr rfl))) (r_cons (s_ix rfl (o_var (i := 1) rfl (by first | exact Or.inl rfl | exact Or.inr (Or.inl rfl) | exact Or.inr (Or.inr rfl))) (o_val s_int)) r_nil)) kr_nil)))
 (k_cons (k_ret (s_gS rfl (n_ONE S)))
 k_nil)) k_nil)
 (k_cons (k_asg (s_var (i := 1) rfl (by first | exact Or.inl rfl | exact Or.inr (Or.inl rfl) | exact Or.inr (Or.inr rfl))) (g_tup rfl rfl (gs_cons (g_name (i := 2) nd rfl (by first | exact Or.inl rfl | exact Or.inr rfl) rfl) (gs_cons (g_name (i := 3) nd rfl (by first | exact Or.inl rfl | exact Or.inr rfl) rfl) (gs_cons (g_name (i := 4) nd rfl (by first | exact Or.inl rfl | exact Or.inr rfl) rfl) (gs_cons (g_name (i := 5) nd rfl (by first | exact Or.inl rfl | exact Or.inr rfl) rfl) gs_nil))))))
 (k_cons (k_if (b_not (b_of (s_cl (c_cl (n := 2) G_is_loop (room.mono (by decide)) rfl (n_is_loop S) F_is_loop.kp (kb_is_loop_15 F_is_loop) pa0 grel_ord (len_ord (by decide) rfl) (r_cons (s_var (i := 0) rfl (by first | exact Or.inl rfl | exact Or.inr (Or.inl rfl) | exact Or.inr (Or.inr rfl))) (r_cons (s_var (i := 3) rfl (by first | exact Or.inl rfl | exact Or.inr (Or.inl rfl) | exact Or.inr (Or.inr rfl))) r_nil)) kr_nil)))) k_noB k_nil)
 (k_cons (k_set (i := 6) nd rfl (by first | exact Or.inl rfl | exact Or.inr rfl) (s_cl (c_cl (n := 3) G_end_on (room.mono (by decide)) rfl (n_end_on S) F_end_on.kp (kb_end_on_37 F_end_on) pa0 grel_ord (len_ord (by decide) rfl) (r_cons (s_var (i := 0) rfl (by first | exact Or.inl rfl | exact Or.inr (Or.inl rfl) | exact Or.inr (Or.inr rfl))) (r_cons (s_var (i := 3) rfl (by first | exact Or.inl rfl | exact Or.inr (Or.inl rfl) | exact Or.inr (Or.inr rfl))) (r_cons (s_var (i := 4) rfl (by first | exact Or.inl rfl | exact Or.inr (Or.inl rfl) | exact Or.inr (Or.inr rfl))) r_nil))) kr_nil)))
 (k_cons (k_if (b_cmp (opr_is) (o_var (i := 6) rfl (by first | exact Or.inl rfl | exact Or.inr (Or.inl rfl) | exact Or.inr (Or.inr rfl))) (o_val s_non)) k_noB k_nil)
 (k_cons (k_if (b_cmp (opr_in rfl hu2) (o_val (s_cl (c_cl (n := 3) G_end_on (room.mono (by decide)) rfl (n_end_on S) F_end_on.kp (kb_end_on_37 F_end_on) pa0 grel_ord (len_ord (by decide) rfl) (r_cons (s_var (i := 0) rfl (by first | exact Or.inl rfl | exact Or.inr (Or.inl rfl) | exact Or.inr (Or.inr rfl))) (r_cons (s_var (i := 3) rfl (by first | exact Or.inl rfl | exact Or.inr (Or.inl rfl) | exact Or.inr (Or.inr rfl))) (r_cons (s_var (i := 5) rfl (by first | exact Or.inl rfl | exact Or.inr (Or.inl rfl) | exact Or.inr (Or.inr rfl))) r_nil))) kr_nil))) (o_val (s_tup (a_cons s_non (a_cons (s_var (i := 6) rfl (by first | exact Or.inl rfl | exact Or.inr (Or.inl rfl) | exact Or.inr (Or.inr rfl))) a_nil))))) k_noB k_nil)
 (k_cons (k_ret (s_gS rfl (n_SEVERAL S)))
 k_nil))))))))), h⟩
abbrev At_need_lot (K : PySem.W.Frag) (fd : FuncData) : Prop := FunD K "need_lot" "need_lot" (defArgs s_need_lot) (defBody s_need_lot) (defScope s_need_lot) [] [] (He.fAd K ("need_lot", none)) fd
theorem df_need_lot (S : Sx K mg) : ∃ fd, At_need_lot K fd := by
  obtain ⟨h, a, b, c⟩ := S.ex
  exact c.def_ 34 (d := d_need_lot) rfl
theorem sc_need_lot : FnScope ["code", "lot"] ["code", "lot"] (defScope s_need_lot) := ⟨rfl, rfl, rfl, by decide +kernel, rfl, by decide +kernel, by decide +kernel⟩
theorem kb_need_lot_39 {fd : FuncData} (F : At_need_lot K fd) : KBn K fd ["code", "lot"] 2 [] (ordL [0, 1]) (ordL [0, 1]) := kbn_ord 2 [0, 1] F (fun _ _ _ _ _ _ us ws h1 h2 => match us, ws, h1, h2 with | [_, _], [], _, _ => rfl)
theorem ok_need_lot (S : Sx K mg) {fd : FuncData} (F : At_need_lot K fd) : FnOk P w K mg base CX0 9 (He.fAd K ("need_lot", none)) fd ["code", "lot"] (spF (Tc K) 2 f_need_lot) := by
  obtain ⟨fd_is_lot, F_is_lot⟩ := df_is_lot S
  have G_is_lot := ok_is_lot (P := P) (w := w) (base := base) S F_is_lot
  refine F.ok sc_need_lot (fun vs H Q E h => h.1) (fun cdv A outer s H vs Q E room h => ?_)
  obtain ⟨Y, h⟩ := fn_start (N := ["code", "lot"]) (n := 2) (m := 0) rfl h
  have hu : (A.deeper (envOfC "need_lot" (defScope s_need_lot) s.heap.objs.size (He.fAd K ("need_lot", none)) cdv)).units + 64 < cLine := by have := room.un; omega
  have hu2 : (A.deeper (envOfC "need_lot" (defScope s_need_lot) s.heap.objs.size (He.fAd K ("need_lot", none)) cdv)).units + 130 < cLine := by have := room.un; omega
  have hu0 : (A.deeper (envOfC "need_lot" (defScope s_need_lot) s.heap.objs.size (He.fAd K ("need_lot", none)) cdv)).units < cLine := by omega
  have hu1 : (A.deeper (envOfC "need_lot" (defScope s_need_lot) s.heap.objs.size (He.fAd K ("need_lot", none)) cdv)).units + 1 < cLine := by omega
  have nd := sc_need_lot.nd
  exact ⟨_, (k_cons (k_if (b_not (b_of (s_cl (c_cl (n := 2) G_is_lot (room.mono (by decide)) rfl (n_is_lot S) F_is_lot.kp (kb_is_lot_32 F_is_lot) pa0 grel_ord (len_ord (by decide) rfl) (r_cons (s_var (i := 0) rfl (by first | exact Or.inl rfl | exact Or.inr (Or.inl rfl) | exact Or.inr (Or.inr rfl))) (r_cons (s_var (i := 1) rfl (by first | exact Or.inl rfl | exact Or.inr (Or.inl rfl) | exact Or.inr (Or.inr rfl))) r_nil)) kr_nil)))) k_noB k_nil)
 k_nil), h⟩
abbrev At_cost (K : PySem.W.Frag) (fd : FuncData) : Prop := FunD K "cost" "cost" (defArgs s_cost) (defBody s_cost) (defScope s_cost) [] [] (He.fAd K ("cost", none)) fd
theorem df_cost (S : Sx K mg) : ∃ fd, At_cost K fd := by
  obtain ⟨h, a, b, c⟩ := S.ex
  exact c.def_ 38 (d := d_cost) rfl
theorem sc_cost : FnScope ["code", "lot"] ["code", "lot"] (defScope s_cost) := ⟨rfl, rfl, rfl, by decide +kernel, rfl, by decide +kernel, by decide +kernel⟩
theorem kb_cost_55 {fd : FuncData} (F : At_cost K fd) : KBn K fd ["code", "lot"] 0 ["lot", "code"] (ordL [1, 0]) (ordL [1, 0]) := kbn_ord 0 [1, 0] F (fun _ _ _ _ _ _ us ws h1 h2 => match us, ws, h1, h2 with | [], [_, _], _, _ => rfl)
theorem ok_cost (S : Sx K mg) {fd : FuncData} (F : At_cost K fd) : FnOk P w K mg base CX0 11 (He.fAd K ("cost", none)) fd ["code", "lot"] (spF (Tc K) 2 f_cost) := by
  obtain ⟨fd_cost_of, F_cost_of⟩ := df_cost_of S
  have G_cost_of := ok_cost_of (P := P) (w := w) (base := base) S F_cost_of
  obtain ⟨fd_need_lot, F_need_lot⟩ := df_need_lot S
  have G_need_lot := ok_need_lot (P := P) (w := w) (base := base) S F_need_lot
  refine F.ok sc_cost (fun vs H Q E h => h.1) (fun cdv A outer s H vs Q E room h => ?_)
  obtain ⟨Y, h⟩ := fn_start (N := ["code", "lot"]) (n := 2) (m := 0) rfl h
  have hu : (A.deeper (envOfC "cost" (defScope s_cost) s.heap.objs.size (He.fAd K ("cost", none)) cdv)).units + 64 < cLine := by have := room.un; omega
  have hu2 : (A.deeper (envOfC "cost" (defScope s_cost) s.heap.objs.size (He.fAd K ("cost", none)) cdv)).units + 130 < cLine := by have := room.un; omega
  have hu0 : (A.deeper (envOfC "cost" (defScope s_cost) s.heap.objs.size (He.fAd K ("cost", none)) cdv)).units < cLine := by omega
  have hu1 : (A.deeper (envOfC "cost" (defScope s_cost) s.heap.objs.size (He.fAd K ("cost", none)) cdv)).units + 1 < cLine := by omega
  have nd := sc_cost.nd
  exact ⟨_, (k_cons (k_ex (s_cl (c_cl (n := 2) G_need_lot (room.mono (by decide)) rfl (n_need_lot S) F_need_lot.kp (kb_need_lot_39 F_need_lot) pa0 grel_ord (len_ord (by decide) rfl) (r_cons (s_var (i := 0) rfl (by first | exact Or.inl rfl | exact Or.inr (Or.inl rfl) | exact Or.inr (Or.inr rfl))) (r_cons (s_var (i := 1) rfl (by first | exact Or.inl rfl | exact Or.inr (Or.inl rfl) | exact Or.inr (Or.inr rfl))) r_nil)) kr_nil)))
 (k_cons (k_ret (s_cl (c_cl (n := 2) G_cost_of (room.mono (by decide)) rfl (n_cost_of S) F_cost_of.kp (kb_cost_of_30 F_cost_of) pa0 grel_ord (len_ord (by decide) rfl) (r_cons (s_var (i := 0) rfl (by first | exact Or.inl rfl | exact Or.inr (Or.inl rfl) | exact Or.inr (Or.inr rfl))) (r_cons (s_var (i := 1) rfl (by first | exact Or.inl rfl | exact Or.inr (Or.inl rfl) | exact Or.inr (Or.inr rfl))) r_nil)) kr_nil)))
 k_nil)), h⟩
abbrev At_ways_to (K : PySem.W.Frag) (fd : FuncData) : Prop := FunD K "ways_to" "ways_to" (defArgs s_ways_to) (defBody s_ways_to) (defScope s_ways_to) [] [] (He.fAd K ("ways_to", none)) fd
theorem df_ways_to (S : Sx K mg) : ∃ fd, At_ways_to K fd := by
  obtain ⟨h, a, b, c⟩ := S.ex
  exact c.def_ 18 (d := d_ways_to) rfl
theorem sc_ways_to : FnScope ["code", "places", "ways", "waiting", "here", "number", "one", "other", "price", "place"] ["code", "places"] (defScope s_ways_to) := ⟨rfl, rfl, rfl, by decide +kernel, rfl, by decide +kernel, by decide +kernel⟩
theorem kb_ways_to_40 {fd : FuncData} (F : At_ways_to K fd) : KBn K fd ["code", "places"] 2 [] (ordL [0, 1]) (ordL [0, 1]) := kbn_ord 2 [0, 1] F (fun _ _ _ _ _ _ us ws h1 h2 => match us, ws, h1, h2 with | [_, _], [], _, _ => rfl)
theorem ok_ways_to (S : Sx K mg) {fd : FuncData} (F : At_ways_to K fd) : FnOk P w K mg base CX0 1 (He.fAd K ("ways_to", none)) fd ["code", "places"] (spF (Tc K) 2 f_ways_to) := by
  refine F.ok sc_ways_to (fun vs H Q E h => h.1) (fun cdv A outer s H vs Q E room h => ?_)
  obtain ⟨Y, h⟩ := fn_start (N := ["code", "places", "ways", "waiting", "here", "number", "one", "other", "price", "place"]) (n := 2) (m := 8) rfl h
  have hu : (A.deeper (envOfC "ways_to" (defScope s_ways_to) s.heap.objs.size (He.fAd K ("ways_to", none)) cdv)).units + 64 < cLine := by have := room.un; omega
  have hu2 : (A.deeper (envOfC "ways_to" (defScope s_ways_to) s.heap.objs.size (He.fAd K ("ways_to", none)) cdv)).units + 130 < cLine := by have := room.un; omega
  have hu0 : (A.deeper (envOfC "ways_to" (defScope s_ways_to) s.heap.objs.size (He.fAd K ("ways_to", none)) cdv)).units < cLine := by omega
  have hu1 : (A.deeper (envOfC "ways_to" (defScope s_ways_to) s.heap.objs.size (He.fAd K ("ways_to", none)) cdv)).units + 1 < cLine := by omega
  have nd := sc_ways_to.nd
  exact ⟨_, (k_cons (k_parT (n := 2) (is := [2, 3]) rfl rfl (p_own (n_d1 (fun _ => (s_fld (c := 0) rfl (cls_Code S) (na_Code_door S) (o_var (i := 0) rfl (by first | exact Or.inl rfl | exact Or.inr (Or.inl rfl) | exact Or.inr (Or.inr rfl))))) (fun _ => (s_tup a_nil))) (fun _ => (p_own (n_lst (a_cons (s_fld (c := 0) rfl (cls_Code S) (na_Code_door S) (o_var (i := 0) rfl (by first | exact Or.inl rfl | exact Or.inr (Or.inl rfl) | exact Or.inr (Or.inr rfl)))) a_nil)) (fun _ => p_nil)))) (gn_cons (i := 2) nd rfl (by first | exact Or.inl rfl | exact Or.inr rfl) (gn_cons (i := 3) nd rfl (by first | exact Or.inl rfl | exact Or.inr rfl) gn_nil)))
 (k_cons (k_wh 64 (passes_of rfl) (b_cmp (opr_ne rfl hu) (o_var (i := 3) rfl (by first | exact Or.inl rfl | exact Or.inr (Or.inl rfl) | exact Or.inr (Or.inr rfl))) (o_val (s_lst a_nil))) (k_cons (k_set (i := 4) nd rfl (by first | exact Or.inl rfl | exact Or.inr rfl) (s_pop0 (i := 3) rfl (by first | exact Or.inl rfl | exact Or.inr (Or.inl rfl) | exact Or.inr (Or.inr rfl)) (by decide) (by decide)))
 (k_cons (k_for (passes_of rfl) rfl (i_en rfl rfl (n_enumerate S) (s_fld (c := 0) rfl (cls_Code S) (na_Code_jumps S) (o_var (i := 0) rfl (by first | exact Or.inl rfl | exact Or.inr (Or.inl rfl) | exact Or.inr (Or.inr rfl))))) (g_tup rfl rfl (gs_cons (g_name (i := 5) nd rfl (by first | exact Or.inl rfl | exact Or.inr rfl) rfl) (gs_cons (g_tup rfl rfl (gs_cons (g_name (i := 6) nd rfl (by first | exact Or.inl rfl | exact Or.inr rfl) rfl) (gs_cons (g_name (i := 7) nd rfl (by first | exact Or.inl rfl | exact Or.inr rfl) rfl) (gs_cons (g_name (i := 8) nd rfl (by first | exact Or.inl rfl | exact Or.inr rfl) rfl) gs_nil)))) gs_nil))) (k_cons (k_if (b_w (w_and (b_cmp (opr_eq rfl hu) (o_var (i := 6) rfl (by first | exact Or.inl rfl | exact Or.inr (Or.inl rfl) | exact Or.inr (Or.inr rfl))) (o_var (i := 4) rfl (by first | exact Or.inl rfl | exact Or.inr (Or.inl rfl) | exact Or.inr (Or.inr rfl)))) (w_and (b_cmp (opr_nin rfl hu2) (o_var (i := 4) rfl (by first | exact Or.inl rfl | exact Or.inr (Or.inl rfl) | exact Or.inr (Or.inr rfl))) (o_var (i := 1) rfl (by first | exact Or.inl rfl | exact Or.inr (Or.inl rfl) | exact Or.inr (Or.inr rfl)))) (w_and1 (b_cmp (opr_nin rfl hu2) (o_var (i := 7) rfl (by first | exact Or.inl rfl | exact Or.inr (Or.inl rfl) | exact Or.inr (Or.inr rfl))) (o_var (i := 2) rfl (by first | exact Or.inl rfl | exact Or.inr (Or.inl rfl) | exact Or.inr (Or.inr rfl)))))))) (k_cons (k_dput (i := 2) hu1 rfl (by first | exact Or.inl rfl | exact Or.inr (Or.inl rfl) | exact Or.inr (Or.inr rfl)) (s_var (i := 7) rfl (by first | exact Or.inl rfl | exact Or.inr (Or.inl rfl) | exact Or.inr (Or.inr rfl))) (s_tup (a_star rfl (o_val (s_dget hu1 (o_var (i := 2) rfl (by first | exact Or.inl rfl | exact Or.inr (Or.inl rfl) | exact Or.inr (Or.inr rfl))) (o_var (i := 4) rfl (by first | exact Or.inl rfl | exact Or.inr (Or.inl rfl) | exact Or.inr (Or.inr rfl))))) (a_cons (s_var (i := 5) rfl (by first | exact Or.inl rfl | exact Or.inr (Or.inl rfl) | exact Or.inr (Or.inr rfl))) a_nil))) (fun _ _ _ h1 h2 h3 => ps_dput hu1 h1 h2 h3 rfl))
 (k_cons (k_ex (s_app (i := 3) rfl (by first | exact Or.inl rfl | exact Or.inr (Or.inl rfl) | exact Or.inr (Or.inr rfl)) (s_var (i := 7) rfl (by first | exact Or.inl rfl | exact Or.inr (Or.inl rfl) | exact Or.inr (Or.inr rfl))) (by decide) (by decide)))
 k_nil)) k_nil)
 k_nil))
 k_nil)))
 (k_cons (k_ret (s_new (n_dc [("place", 9)] rfl nd (i_seq rfl (s_var (i := 1) rfl (by first | exact Or.inl rfl | exact Or.inr (Or.inl rfl) | exact Or.inr (Or.inr rfl))) (fun _ h => pi_list h) (fun _ h => pi_tup h) (fun _ h => pi_str h)) (blkOk_by (by kernel_rfl)) (by decide) (fun _ _ _ _ _ _ => (g_name (i := 9) nd rfl (by first | exact Or.inl rfl | exact Or.inr rfl) rfl)) (fun _ _ _ _ _ _ => (ts_one (b_cmp (opr_in rfl hu2) (o_var (i := 9) rfl (by first | exact Or.inl rfl | exact Or.inr (Or.inl rfl) | exact Or.inr (Or.inr rfl))) (o_var (i := 2) rfl (by first | exact Or.inl rfl | exact Or.inr (Or.inl rfl) | exact Or.inr (Or.inr rfl)))))) (fun _ _ _ _ _ _ => (s_var (i := 9) rfl (by first | exact Or.inl rfl | exact Or.inr (Or.inl rfl) | exact Or.inr (Or.inr rfl)))) (fun _ _ _ _ _ _ => (s_dget hu1 (o_var (i := 2) rfl (by first | exact Or.inl rfl | exact Or.inr (Or.inl rfl) | exact Or.inr (Or.inr rfl))) (o_var (i := 9) rfl (by first | exact Or.inl rfl | exact Or.inr (Or.inl rfl) | exact Or.inr (Or.inr rfl))))))))
 k_nil))), h⟩
abbrev At_door_so (K : PySem.W.Frag) (fd : FuncData) : Prop := FunD K "door_so" "door_so" (defArgs s_door_so) (defBody s_door_so) (defScope s_door_so) [] [] (He.fAd K ("door_so", none)) fd
theorem df_door_so (S : Sx K mg) : ∃ fd, At_door_so K fd := by
  obtain ⟨h, a, b, c⟩ := S.ex
  exact c.def_ 19 (d := d_door_so) rfl
theorem sc_door_so : FnScope ["code", "loop", "first"] ["code", "loop"] (defScope s_door_so) := ⟨rfl, rfl, rfl, by decide +kernel, rfl, by decide +kernel, by decide +kernel⟩
theorem kb_door_so_41 {fd : FuncData} (F : At_door_so K fd) : KBn K fd ["code", "loop"] 2 [] (ordL [0, 1]) (ordL [0, 1]) := kbn_ord 2 [0, 1] F (fun _ _ _ _ _ _ us ws h1 h2 => match us, ws, h1, h2 with | [_, _], [], _, _ => rfl)
theorem ok_door_so (S : Sx K mg) {fd : FuncData} (F : At_door_so K fd) : FnOk P w K mg base CX0 3 (He.fAd K ("door_so", none)) fd ["code", "loop"] (spF (Tc K) 2 f_door_so) := by
  obtain ⟨fd_starts_of, F_starts_of⟩ := df_starts_of S
  have G_starts_of := ok_starts_of (P := P) (w := w) (base := base) S F_starts_of
  obtain ⟨fd_ways_to, F_ways_to⟩ := df_ways_to S
  have G_ways_to := ok_ways_to (P := P) (w := w) (base := base) S F_ways_to
  refine F.ok sc_door_so (fun vs H Q E h => h.1) (fun cdv A outer s H vs Q E room h => ?_)
  obtain ⟨Y, h⟩ := fn_start (N := ["code", "loop", "first"]) (n := 2) (m := 1) rfl h
  have hu : (A.deeper (envOfC "door_so" (defScope s_door_so) s.heap.objs.size (He.fAd K ("door_so", none)) cdv)).units + 64 < cLine := by have := room.un; omega
  have hu2 : (A.deeper (envOfC "door_so" (defScope s_door_so) s.heap.objs.size (He.fAd K ("door_so", none)) cdv)).units + 130 < cLine := by have := room.un; omega
  have hu0 : (A.deeper (envOfC "door_so" (defScope s_door_so) s.heap.objs.size (He.fAd K ("door_so", none)) cdv)).units < cLine := by omega
  have hu1 : (A.deeper (envOfC "door_so" (defScope s_door_so) s.heap.objs.size (He.fAd K ("door_so", none)) cdv)).units + 1 < cLine := by omega
  have nd := sc_door_so.nd
  exact ⟨_, (k_cons (k_set (i := 2) nd rfl (by first | exact Or.inl rfl | exact Or.inr rfl) (s_t1 (cr1_list rfl rfl) rfl (n_list S) rfl (o_val (s_cl (c_cl (n := 2) G_ways_to (room.mono (by decide)) rfl (n_ways_to S) F_ways_to.kp (kb_ways_to_40 F_ways_to) pa0 grel_ord (len_ord (by decide) rfl) (r_cons (s_var (i := 0) rfl (by first | exact Or.inl rfl | exact Or.inr (Or.inl rfl) | exact Or.inr (Or.inr rfl))) (r_cons (s_cl (c_cl (n := 2) G_starts_of (room.mono (by decide)) rfl (n_starts_of S) F_starts_of.kp (kb_starts_of_12 F_starts_of) pa0 grel_ord (len_ord (by decide) rfl) (r_cons (s_var (i := 0) rfl (by first | exact Or.inl rfl | exact Or.inr (Or.inl rfl) | exact Or.inr (Or.inr rfl))) (r_cons (s_var (i := 1) rfl (by first | exact Or.inl rfl | exact Or.inr (Or.inl rfl) | exact Or.inr (Or.inr rfl))) r_nil)) kr_nil)) r_nil)) kr_nil)))))
 (k_cons (k_ret (s_ite (b_cmp (opr_eq rfl hu) (o_val (s_b1 (cr1_len rfl) rfl (n_len S) rfl (o_var (i := 2) rfl (by first | exact Or.inl rfl | exact Or.inr (Or.inl rfl) | exact Or.inr (Or.inr rfl))))) (o_val s_int)) (s_ix rfl (o_var (i := 2) rfl (by first | exact Or.inl rfl | exact Or.inr (Or.inl rfl) | exact Or.inr (Or.inr rfl))) (o_val s_int)) s_non))
 k_nil)), h⟩
abbrev At_door_of (K : PySem.W.Frag) (fd : FuncData) : Prop := FunD K "door_of" "door_of" (defArgs s_door_of) (defBody s_door_of) (defScope s_door_of) [] [] (He.fAd K ("door_of", none)) fd
theorem df_door_of (S : Sx K mg) : ∃ fd, At_door_of K fd := by
  obtain ⟨h, a, b, c⟩ := S.ex
  exact c.def_ 20 (d := d_door_of) rfl
theorem sc_door_of : FnScope ["code", "loop"] ["code", "loop"] (defScope s_door_of) := ⟨rfl, rfl, rfl, by decide +kernel, rfl, by decide +kernel, by decide +kernel⟩
theorem kb_door_of_62 {fd : FuncData} (F : At_door_of K fd) : KBn K fd ["code", "loop"] 0 ["loop", "code"] (ordL [1, 0]) (ordL [1, 0]) := kbn_ord 0 [1, 0] F (fun _ _ _ _ _ _ us ws h1 h2 => match us, ws, h1, h2 with | [], [_, _], _, _ => rfl)
theorem ok_door_of (S : Sx K mg) {fd : FuncData} (F : At_door_of K fd) : FnOk P w K mg base CX0 11 (He.fAd K ("door_of", none)) fd ["code", "loop"] (spF (Tc K) 2 f_door_of) := by
  obtain ⟨fd_door_so, F_door_so⟩ := df_door_so S
  have G_door_so := ok_door_so (P := P) (w := w) (base := base) S F_door_so
  obtain ⟨fd_need_loop, F_need_loop⟩ := df_need_loop S
  have G_need_loop := ok_need_loop (P := P) (w := w) (base := base) S F_need_loop
  refine F.ok sc_door_of (fun vs H Q E h => h.1) (fun cdv A outer s H vs Q E room h => ?_)
  obtain ⟨Y, h⟩ := fn_start (N := ["code", "loop"]) (n := 2) (m := 0) rfl h
  have hu : (A.deeper (envOfC "door_of" (defScope s_door_of) s.heap.objs.size (He.fAd K ("door_of", none)) cdv)).units + 64 < cLine := by have := room.un; omega
  have hu2 : (A.deeper (envOfC "door_of" (defScope s_door_of) s.heap.objs.size (He.fAd K ("door_of", none)) cdv)).units + 130 < cLine := by have := room.un; omega
  have hu0 : (A.deeper (envOfC "door_of" (defScope s_door_of) s.heap.objs.size (He.fAd K ("door_of", none)) cdv)).units < cLine := by omega
  have hu1 : (A.deeper (envOfC "door_of" (defScope s_door_of) s.heap.objs.size (He.fAd K ("door_of", none)) cdv)).units + 1 < cLine := by omega
  have nd := sc_door_of.nd
  exact ⟨_, (k_cons (k_ex (s_cl (c_cl (n := 2) G_need_loop (room.mono (by decide)) rfl (n_need_loop S) F_need_loop.kp (kb_need_loop_16 F_need_loop) pa0 grel_ord (len_ord (by decide) rfl) (r_cons (s_var (i := 0) rfl (by first | exact Or.inl rfl | exact Or.inr (Or.inl rfl) | exact Or.inr (Or.inr rfl))) (r_cons (s_var (i := 1) rfl (by first | exact Or.inl rfl | exact Or.inr (Or.inl rfl) | exact Or.inr (Or.inr rfl))) r_nil)) kr_nil)))
 (k_cons (k_ret (s_cl (c_cl (n := 2) G_door_so (room.mono (by decide)) rfl (n_door_so S) F_door_so.kp (kb_door_so_41 F_door_so) pa0 grel_ord (len_ord (by decide) rfl) (r_cons (s_var (i := 0) rfl (by first | exact Or.inl rfl | exact Or.inr (Or.inl rfl) | exact Or.inr (Or.inr rfl))) (r_cons (s_var (i := 1) rfl (by first | exact Or.inl rfl | exact Or.inr (Or.inl rfl) | exact Or.inr (Or.inr rfl))) r_nil)) kr_nil)))
 k_nil)), h⟩
abbrev At_foldings_of (K : PySem.W.Frag) (fd : FuncData) : Prop := FunD K "foldings_of" "foldings_of" (defArgs s_foldings_of) (defBody s_foldings_of) (defScope s_foldings_of) [] [] (He.fAd K ("foldings_of", none)) fd
theorem df_foldings_of (S : Sx K mg) : ∃ fd, At_foldings_of K fd := by
  obtain ⟨h, a, b, c⟩ := S.ex
  exact c.def_ 24 (d := d_foldings_of) rfl
theorem sc_foldings_of : FnScope ["code", "lumps", "found", "is_done", "name", "ahead", "place"] ["code"] (defScope s_foldings_of) := ⟨rfl, rfl, rfl, by decide +kernel, rfl, by decide +kernel, by decide +kernel⟩
theorem kb_foldings_of_42 {fd : FuncData} (F : At_foldings_of K fd) : KBn K fd ["code"] 1 [] (ordL [0]) (ordL [0]) := kbn_ord 1 [0] F (fun _ _ _ _ _ _ us ws h1 h2 => match us, ws, h1, h2 with | [_], [], _, _ => rfl)
theorem ok_foldings_of (S : Sx K mg) {fd : FuncData} (F : At_foldings_of K fd) : FnOk P w K mg base CX0 3 (He.fAd K ("foldings_of", none)) fd ["code"] (spF (Tc K) 1 f_foldings_of) := by
  obtain ⟨fd_lumps_ahead, F_lumps_ahead⟩ := df_lumps_ahead S
  have G_lumps_ahead := ok_lumps_ahead (P := P) (w := w) (base := base) S F_lumps_ahead
  obtain ⟨fd_put_into, F_put_into⟩ := df_put_into S
  have G_put_into := ok_put_into (P := P) (w := w) (base := base) S F_put_into
  refine F.ok sc_foldings_of (fun vs H Q E h => h.1) (fun cdv A outer s H vs Q E room h => ?_)
  obtain ⟨Y, h⟩ := fn_start (N := ["code", "lumps", "found", "is_done", "name", "ahead", "place"]) (n := 1) (m := 6) rfl h
  have hu : (A.deeper (envOfC "foldings_of" (defScope s_foldings_of) s.heap.objs.size (He.fAd K ("foldings_of", none)) cdv)).units + 64 < cLine := by have := room.un; omega
  have hu2 : (A.deeper (envOfC "foldings_of" (defScope s_foldings_of) s.heap.objs.size (He.fAd K ("foldings_of", none)) cdv)).units + 130 < cLine := by have := room.un; omega
  have hu0 : (A.deeper (envOfC "foldings_of" (defScope s_foldings_of) s.heap.objs.size (He.fAd K ("foldings_of", none)) cdv)).units < cLine := by omega
  have hu1 : (A.deeper (envOfC "foldings_of" (defScope s_foldings_of) s.heap.objs.size (He.fAd K ("foldings_of", none)) cdv)).units + 1 < cLine := by omega
  have nd := sc_foldings_of.nd
  exact ⟨_, (k_cons (k_par3 (i := 1) (j := 2) (l := 3) rfl nd rfl rfl rfl (by decide) (by decide) (by decide) rfl rfl rfl (p_val (s_new (n_dc [("place", 6)] rfl nd (i_seq rfl (s_fld (c := 0) rfl (cls_Code S) (na_Code_places S) (o_var (i := 0) rfl (by first | exact Or.inl rfl | exact Or.inr (Or.inl rfl) | exact Or.inr (Or.inr rfl)))) (fun _ h => pi_list h) (fun _ h => pi_tup h) (fun _ h => pi_str h)) (blkOk_by (by kernel_rfl)) (by decide) (fun _ _ _ _ _ _ => (g_name (i := 6) nd rfl (by first | exact Or.inl rfl | exact Or.inr rfl) rfl)) (fun _ _ _ _ _ _ => ts_nil) (fun _ _ _ _ _ _ => (s_var (i := 6) rfl (by first | exact Or.inl rfl | exact Or.inr (Or.inl rfl) | exact Or.inr (Or.inr rfl)))) (fun _ _ _ _ _ _ => (s_var (i := 6) rfl (by first | exact Or.inl rfl | exact Or.inr (Or.inl rfl) | exact Or.inr (Or.inr rfl)))))) (p_own (n_lst a_nil) (fun _ => (p_val s_bl p_nil)))) rfl)
 (k_cons (k_wh 64 (passes_of rfl) (b_not (b_of (s_var (i := 3) rfl (by first | exact Or.inl rfl | exact Or.inr (Or.inl rfl) | exact Or.inr (Or.inr rfl))))) (k_cons (k_set (i := 3) nd rfl (by first | exact Or.inl rfl | exact Or.inr rfl) s_bl)
 (k_cons (k_for (passes_of rfl) rfl (i_seq rfl (n_srtSet rfl rfl rfl (n_sorted S) rfl (n_set S) (o_val (s_listVals rfl rfl (n_list S) (o_var (i := 1) rfl (by first | exact Or.inl rfl | exact Or.inr (Or.inl rfl) | exact Or.inr (Or.inr rfl)))))) (fun _ h => pi_list h) (fun _ h => pi_tup h) (fun _ h => pi_str h)) (g_name (i := 4) nd rfl (by first | exact Or.inl rfl | exact Or.inr rfl) rfl) (k_cons (k_set (i := 5) nd rfl (by first | exact Or.inl rfl | exact Or.inr rfl) (s_cl (c_cl (n := 3) G_lumps_ahead (room.mono (by decide)) rfl (n_lumps_ahead S) F_lumps_ahead.kp (kb_lumps_ahead_35 F_lumps_ahead) pa0 grel_ord (len_ord (by decide) rfl) (r_cons (s_var (i := 0) rfl (by first | exact Or.inl rfl | exact Or.inr (Or.inl rfl) | exact Or.inr (Or.inr rfl))) (r_cons (s_var (i := 1) rfl (by first | exact Or.inl rfl | exact Or.inr (Or.inl rfl) | exact Or.inr (Or.inr rfl))) (r_cons (s_var (i := 4) rfl (by first | exact Or.inl rfl | exact Or.inr (Or.inl rfl) | exact Or.inr (Or.inr rfl))) r_nil))) kr_nil)))
 (k_cons (k_if (b_w (w_and (b_cmp (opr_ne rfl hu) (o_var (i := 4) rfl (by first | exact Or.inl rfl | exact Or.inr (Or.inl rfl) | exact Or.inr (Or.inr rfl))) (o_val (s_fld (c := 0) rfl (cls_Code S) (na_Code_door S) (o_var (i := 0) rfl (by first | exact Or.inl rfl | exact Or.inr (Or.inl rfl) | exact Or.inr (Or.inr rfl)))))) (w_and (b_cmp (opr_eq rfl hu) (o_val (s_b1 (cr1_len rfl) rfl (n_len S) rfl (o_var (i := 5) rfl (by first | exact Or.inl rfl | exact Or.inr (Or.inl rfl) | exact Or.inr (Or.inr rfl))))) (o_val s_int)) (w_and1 (b_of (s_var (i := 3) rfl (by first | exact Or.inl rfl | exact Or.inr (Or.inl rfl) | exact Or.inr (Or.inr rfl)))))))) (k_cons (k_ex (s_app (i := 2) rfl (by first | exact Or.inl rfl | exact Or.inr (Or.inl rfl) | exact Or.inr (Or.inr rfl)) (s_tup (a_cons (s_var (i := 4) rfl (by first | exact Or.inl rfl | exact Or.inr (Or.inl rfl) | exact Or.inr (Or.inr rfl))) (a_cons (s_ix rfl (o_var (i := 5) rfl (by first | exact Or.inl rfl | exact Or.inr (Or.inl rfl) | exact Or.inr (Or.inr rfl))) (o_val s_int)) a_nil))) (by decide) (by decide)))
 (k_cons (k_set (i := 1) nd rfl (by first | exact Or.inl rfl | exact Or.inr rfl) (s_cl (c_cl (n := 3) G_put_into (room.mono (by decide)) rfl (n_put_into S) F_put_into.kp (kb_put_into_34 F_put_into) pa0 grel_ord (len_ord (by decide) rfl) (r_cons (s_var (i := 1) rfl (by first | exact Or.inl rfl | exact Or.inr (Or.inl rfl) | exact Or.inr (Or.inr rfl))) (r_cons (s_var (i := 4) rfl (by first | exact Or.inl rfl | exact Or.inr (Or.inl rfl) | exact Or.inr (Or.inr rfl))) (r_cons (s_ix rfl (o_var (i := 5) rfl (by first | exact Or.inl rfl | exact Or.inr (Or.inl rfl) | exact Or.inr (Or.inr rfl))) (o_val s_int)) r_nil))) kr_nil)))
 (k_cons (k_set (i := 3) nd rfl (by first | exact Or.inl rfl | exact Or.inr rfl) s_bl)
 k_nil))) k_nil)
 k_nil)))
 k_nil)))
 (k_cons (k_ret (s_t1 (cr1_tuple rfl) rfl (n_tuple S) rfl (o_var (i := 2) rfl (by first | exact Or.inl rfl | exact Or.inr (Or.inl rfl) | exact Or.inr (Or.inr rfl)))))
 k_nil))), h⟩
abbrev At_doors_paper (K : PySem.W.Frag) (fd : FuncData) : Prop := FunD K "doors_paper" "doors_paper" (defArgs s_doors_paper) (defBody s_doors_paper) (defScope s_doors_paper) [] [] (He.fAd K ("doors_paper", none)) fd
theorem df_doors_paper (S : Sx K mg) : ∃ fd, At_doors_paper K fd := by
  obtain ⟨h, a, b, c⟩ := S.ex
  exact c.def_ 25 (d := d_doors_paper) rfl
theorem sc_doors_paper : FnScope ["code", "loop", "ways", "some", "place"] ["code"] (defScope s_doors_paper) := ⟨rfl, rfl, rfl, by decide +kernel, rfl, by decide +kernel, by decide +kernel⟩
theorem kb_doors_paper_46 {fd : FuncData} (F : At_doors_paper K fd) : KBn K fd ["code"] 1 [] (ordL [0]) (ordL [0]) := kbn_ord 1 [0] F (fun _ _ _ _ _ _ us ws h1 h2 => match us, ws, h1, h2 with | [_], [], _, _ => rfl)
theorem kb_doors_paper_58 {fd : FuncData} (F : At_doors_paper K fd) : KBn K fd ["code"] 0 ["code"] (ordL [0]) (ordL [0]) := kbn_ord 0 [0] F (fun _ _ _ _ _ _ us ws h1 h2 => match us, ws, h1, h2 with | [], [_], _, _ => rfl)
theorem ok_doors_paper (S : Sx K mg) {fd : FuncData} (F : At_doors_paper K fd) : FnOk P w K mg base CX0 19 (He.fAd K ("doors_paper", none)) fd ["code"] (spF (Tc K) 1 f_doors_paper) := by
  obtain ⟨fd_foldings_of, F_foldings_of⟩ := df_foldings_of S
  have G_foldings_of := ok_foldings_of (P := P) (w := w) (base := base) S F_foldings_of
  obtain ⟨fd_loops, F_loops⟩ := df_loops S
  have G_loops := ok_loops (P := P) (w := w) (base := base) S F_loops
  obtain ⟨fd_starts_of, F_starts_of⟩ := df_starts_of S
  have G_starts_of := ok_starts_of (P := P) (w := w) (base := base) S F_starts_of
  obtain ⟨fd_ways_to, F_ways_to⟩ := df_ways_to S
  have G_ways_to := ok_ways_to (P := P) (w := w) (base := base) S F_ways_to
  refine F.ok sc_doors_paper (fun vs H Q E h => h.1) (fun cdv A outer s H vs Q E room h => ?_)
  obtain ⟨Y, h⟩ := fn_start (N := ["code", "loop", "ways", "some", "place"]) (n := 1) (m := 4) rfl h
  have hu : (A.deeper (envOfC "doors_paper" (defScope s_doors_paper) s.heap.objs.size (He.fAd K ("doors_paper", none)) cdv)).units + 64 < cLine := by have := room.un; omega
  have hu2 : (A.deeper (envOfC "doors_paper" (defScope s_doors_paper) s.heap.objs.size (He.fAd K ("doors_paper", none)) cdv)).units + 130 < cLine := by have := room.un; omega
  have hu0 : (A.deeper (envOfC "doors_paper" (defScope s_doors_paper) s.heap.objs.size (He.fAd K ("doors_paper", none)) cdv)).units < cLine := by omega
  have hu1 : (A.deeper (envOfC "doors_paper" (defScope s_doors_paper) s.heap.objs.size (He.fAd K ("doors_paper", none)) cdv)).units + 1 < cLine := by omega
  have nd := sc_doors_paper.nd
  exact ⟨_, (k_cons (k_for (passes_of rfl) rfl (i_seq rfl (s_cl (c_cl (n := 1) G_loops (room.mono (by decide)) rfl (n_loops S) F_loops.kp (kb_loops_29 F_loops) pa0 grel_ord (len_ord (by decide) rfl) (r_cons (s_var (i := 0) rfl (by first | exact Or.inl rfl | exact Or.inr (Or.inl rfl) | exact Or.inr (Or.inr rfl))) r_nil) kr_nil)) (fun _ h => pi_list h) (fun _ h => pi_tup h) (fun _ h => pi_str h)) (g_name (i := 1) nd rfl (by first | exact Or.inl rfl | exact Or.inr rfl) rfl) (k_cons (k_set (i := 2) nd rfl (by first | exact Or.inl rfl | exact Or.inr rfl) (s_cl (c_cl (n := 2) G_ways_to (room.mono (by decide)) rfl (n_ways_to S) F_ways_to.kp (kb_ways_to_40 F_ways_to) pa0 grel_ord (len_ord (by decide) rfl) (r_cons (s_var (i := 0) rfl (by first | exact Or.inl rfl | exact Or.inr (Or.inl rfl) | exact Or.inr (Or.inr rfl))) (r_cons (s_cl (c_cl (n := 2) G_starts_of (room.mono (by decide)) rfl (n_starts_of S) F_starts_of.kp (kb_starts_of_12 F_starts_of) pa0 grel_ord (len_ord (by decide) rfl) (r_cons (s_var (i := 0) rfl (by first | exact Or.inl rfl | exact Or.inr (Or.inl rfl) | exact Or.inr (Or.inr rfl))) (r_cons (s_var (i := 1) rfl (by first | exact Or.inl rfl | exact Or.inr (Or.inl rfl) | exact Or.inr (Or.inr rfl))) r_nil)) kr_nil)) r_nil)) kr_nil)))
 (k_cons (k_if (b_cmp (opr_gt) (o_val (s_b1 (cr1_len rfl) rfl (n_len S) rfl (o_var (i := 2) rfl (by first | exact Or.inl rfl | exact Or.inr (Or.inl rfl) | exact Or.inr (Or.inr rfl))))) (o_val s_int)) (k_cons (k_setLc [("place", 4)] rfl nd (i := 3) rfl rfl (by rfl) (i_seq rfl (s_b1 (cr1_sorted rfl rfl hu) rfl (n_sorted S) rfl (o_var (i := 2) rfl (by first | exact Or.inl rfl | exact Or.inr (Or.inl rfl) | exact Or.inr (Or.inr rfl)))) (fun _ h => pi_list h) (fun _ h => pi_tup h) (fun _ h => pi_str h)) (blkOk_by (by kernel_rfl)) (by decide) (fun _ _ _ _ _ _ => (g_name (i := 4) nd rfl (by first | exact Or.inl rfl | exact Or.inr rfl) rfl)) (fun _ _ _ _ _ _ => ts_nil) (fun _ _ _ _ _ _ => (s_dget hu1 (o_var (i := 2) rfl (by first | exact Or.inl rfl | exact Or.inr (Or.inl rfl) | exact Or.inr (Or.inr rfl))) (o_var (i := 4) rfl (by first | exact Or.inl rfl | exact Or.inr (Or.inl rfl) | exact Or.inr (Or.inr rfl))))))
 (k_cons (k_ret (s_tup (a_cons (s_gS rfl (n_SEVERAL S)) (a_cons (s_var (i := 1) rfl (by first | exact Or.inl rfl | exact Or.inr (Or.inl rfl) | exact Or.inr (Or.inr rfl))) (a_cons (s_ix rfl (o_var (i := 3) rfl (by first | exact Or.inl rfl | exact Or.inr (Or.inl rfl) | exact Or.inr (Or.inr rfl))) (o_val s_int)) (a_cons (s_ix rfl (o_var (i := 3) rfl (by first | exact Or.inl rfl | exact Or.inr (Or.inl rfl) | exact Or.inr (Or.inr rfl))) (o_val s_int)) a_nil))))))
 k_nil)) k_nil)
 k_nil)))
 (k_cons (k_ret (s_tup (a_cons (s_gS rfl (n_ONE S)) (a_cons (s_cl (c_cl (n := 1) G_foldings_of (room.mono (by decide)) rfl (n_foldings_of S) F_foldings_of.kp (kb_foldings_of_42 F_foldings_of) pa0 grel_ord (len_ord (by decide) rfl) (r_cons (s_var (i := 0) rfl (by first | exact Or.inl rfl | exact Or.inr (Or.inl rfl) | exact Or.inr (Or.inr rfl))) r_nil) kr_nil)) a_nil))))
 k_nil)), h⟩
end
end Wk
namespace Wk
open PySem PySem.Spec PyProof.Rows L2 Lc Hd
section
variable {P : Program} {w : World} {K : PySem.W.Frag} {mg : Str → Option Value} {base : Heap}
abbrev At_is_cut (K : PySem.W.Frag) (fd : FuncData) : Prop := FunD K "is_cut" "is_cut" (defArgs s_is_cut) (defBody s_is_cut) (defScope s_is_cut) [] [] (He.fAd K ("is_cut", none)) fd
theorem df_is_cut (S : Sx K mg) : ∃ fd, At_is_cut K fd := by
  obtain ⟨h, a, b, c⟩ := S.ex
  exact c.def_ 36 (d := d_is_cut) rfl
theorem sc_is_cut : FnScope ["code", "lot"] ["code", "lot"] (defScope s_is_cut) := ⟨rfl, rfl, rfl, by decide +kernel, rfl, by decide +kernel, by decide +kernel⟩
theorem kb_is_cut_60 {fd : FuncData} (F : At_is_cut K fd) : KBn K fd ["code", "lot"] 0 ["lot", "code"] (ordL [1, 0]) (ordL [1, 0]) := kbn_ord 0 [1, 0] F (fun _ _ _ _ _ _ us ws h1 h2 => match us, ws, h1, h2 with | [], [_, _], _, _ => rfl)
theorem ok_is_cut (S : Sx K mg) {fd : FuncData} (F : At_is_cut K fd) : FnOk P w K mg base CX0 21 (He.fAd K ("is_cut", none)) fd ["code", "lot"] (spF (Tc K) 2 f_is_cut) := by
  obtain ⟨fd_meets_all, F_meets_all⟩ := df_meets_all S
  have G_meets_all := ok_meets_all (P := P) (w := w) (base := base) S F_meets_all
  obtain ⟨fd_need_lot, F_need_lot⟩ := df_need_lot S
  have G_need_lot := ok_need_lot (P := P) (w := w) (base := base) S F_need_lot
  refine F.ok sc_is_cut (fun vs H Q E h => h.1) (fun cdv A outer s H vs Q E room h => ?_)
  obtain ⟨Y, h⟩ := fn_start (N := ["code", "lot"]) (n := 2) (m := 0) rfl h
  have hu : (A.deeper (envOfC "is_cut" (defScope s_is_cut) s.heap.objs.size (He.fAd K ("is_cut", none)) cdv)).units + 64 < cLine := by have := room.un; omega
  have hu2 : (A.deeper (envOfC "is_cut" (defScope s_is_cut) s.heap.objs.size (He.fAd K ("is_cut", none)) cdv)).units + 130 < cLine := by have := room.un; omega
  have hu0 : (A.deeper (envOfC "is_cut" (defScope s_is_cut) s.heap.objs.size (He.fAd K ("is_cut", none)) cdv)).units < cLine := by omega
  have hu1 : (A.deeper (envOfC "is_cut" (defScope s_is_cut) s.heap.objs.size (He.fAd K ("is_cut", none)) cdv)).units + 1 < cLine := by omega
  have nd := sc_is_cut.nd
  exact ⟨_, (k_cons (k_ex (s_cl (c_cl (n := 2) G_need_lot (room.mono (by decide)) rfl (n_need_lot S) F_need_lot.kp (kb_need_lot_39 F_need_lot) pa0 grel_ord (len_ord (by decide) rfl) (r_cons (s_var (i := 0) rfl (by first | exact Or.inl rfl | exact Or.inr (Or.inl rfl) | exact Or.inr (Or.inr rfl))) (r_cons (s_var (i := 1) rfl (by first | exact Or.inl rfl | exact Or.inr (Or.inl rfl) | exact Or.inr (Or.inr rfl))) r_nil)) kr_nil)))
 (k_cons (k_ret (s_cl (c_cl (n := 2) G_meets_all (room.mono (by decide)) rfl (n_meets_all S) F_meets_all.kp (kb_meets_all_33 F_meets_all) pa0 grel_ord (len_ord (by decide) rfl) (r_cons (s_var (i := 0) rfl (by first | exact Or.inl rfl | exact Or.inr (Or.inl rfl) | exact Or.inr (Or.inr rfl))) (r_cons (s_var (i := 1) rfl (by first | exact Or.inl rfl | exact Or.inr (Or.inl rfl) | exact Or.inr (Or.inr rfl))) r_nil)) kr_nil)))
 k_nil)), h⟩
abbrev At_Hitting_look (K : PySem.W.Frag) (fd : FuncData) : Prop := FunD K "look" "Hitting.look" (defArgs s_Hitting_look) (defBody s_Hitting_look) (defScope s_Hitting_look) [] [] (He.fAd K ("Hitting", some "look")) fd
theorem df_Hitting_look (S : Sx K mg) : ∃ fd, At_Hitting_look K fd := by
  obtain ⟨h, a, b, c⟩ := S.ex
  exact c.def_ 62 (d := d_Hitting_look) rfl
theorem sc_Hitting_look : FnScope ["self", "taken", "barred", "cost", "left", "choice", "place", "item", "items"] ["self", "taken", "barred", "cost"] (defScope s_Hitting_look) := ⟨rfl, rfl, rfl, by decide +kernel, rfl, by decide +kernel, by decide +kernel⟩
theorem kb_Hitting_look_43 {fd : FuncData} (F : At_Hitting_look K fd) : KBn K fd ["self", "taken", "barred", "cost"] 4 [] (ordL [0, 1, 2, 3]) (ordL [0, 1, 2, 3]) := kbn_ord 4 [0, 1, 2, 3] F (fun _ _ _ _ _ _ us ws h1 h2 => match us, ws, h1, h2 with | [_, _, _, _], [], _, _ => rfl)
theorem okr_Hitting_look (S : Sx K mg) {fd : FuncData} (F : At_Hitting_look K fd) : ∀ fuel : Nat, FnOk P w K mg base CX0 (0 + fuel + 1) (He.fAd K ("Hitting", some "look")) fd ["self", "taken", "barred", "cost"] (spF (Tc K) 4 (f_Hitting_look fuel)) := by
  have F_Hitting_look := F
  intro fuel
  induction fuel with
  | zero =>
    refine F.ok sc_Hitting_look (fun vs H Q E h => h.1) (fun cdv A outer s H vs Q E room h => ?_)
    obtain ⟨_, _, _, _, _, h⟩ := h
    exact h.elim
  | succ fuel G_Hitting_look =>
    refine F.ok sc_Hitting_look (fun vs H Q E h => h.1) (fun cdv A outer s H vs Q E room h => ?_)
    obtain ⟨Y, h⟩ := fn_start (N := ["self", "taken", "barred", "cost", "left", "choice", "place", "item", "items"]) (n := 4) (m := 5) rfl h
    have hu : (A.deeper (envOfC "Hitting.look" (defScope s_Hitting_look) s.heap.objs.size (He.fAd K ("Hitting", some "look")) cdv)).units + 64 < cLine := by have := room.un; omega
    have hu2 : (A.deeper (envOfC "Hitting.look" (defScope s_Hitting_look) s.heap.objs.size (He.fAd K ("Hitting", some "look")) cdv)).units + 130 < cLine := by have := room.un; omega
    have hu0 : (A.deeper (envOfC "Hitting.look" (defScope s_Hitting_look) s.heap.objs.size (He.fAd K ("Hitting", some "look")) cdv)).units < cLine := by omega
    have hu1 : (A.deeper (envOfC "Hitting.look" (defScope s_Hitting_look) s.heap.objs.size (He.fAd K ("Hitting", some "look")) cdv)).units + 1 < cLine := by omega
    have nd := sc_Hitting_look.nd
    exact ⟨_, (k_cons (k_if (b_w (w_and (b_cmp (opr_isn) (o_val (s_fld (c := 1) rfl (cls_Hitting S) (na_Hitting_best S) (o_var (i := 0) rfl (by first | exact Or.inl rfl | exact Or.inr (Or.inl rfl) | exact Or.inr (Or.inr rfl))))) (o_val s_non)) (w_and1 (b_cmp (opr_ge) (o_var (i := 3) rfl (by first | exact Or.inl rfl | exact Or.inr (Or.inl rfl) | exact Or.inr (Or.inr rfl))) (o_val (s_ix rfl (o_val (s_fld (c := 1) rfl (cls_Hitting S) (na_Hitting_best S) (o_var (i := 0) rfl (by first | exact Or.inl rfl | exact Or.inr (Or.inl rfl) | exact Or.inr (Or.inr rfl))))) (o_val s_int))))))) (k_cons k_retN
   k_nil) k_nil)
   (k_cons (k_setLc [("items", 8)] rfl nd (i := 4) rfl rfl (by rfl) (i_seq rfl (s_fld (c := 1) rfl (cls_Hitting S) (na_Hitting_own_sets S) (o_var (i := 0) rfl (by first | exact Or.inl rfl | exact Or.inr (Or.inl rfl) | exact Or.inr (Or.inr rfl)))) (fun _ h => pi_list h) (fun _ h => pi_tup h) (fun _ h => pi_str h)) (blkOk_by (by kernel_rfl)) (by decide) (fun _ _ _ _ _ _ => (g_name (i := 8) nd rfl (by first | exact Or.inl rfl | exact Or.inr rfl) rfl)) (fun _ _ _ _ _ _ => (ts_one (b_not (b_of (s_b1 (cr1_any rfl rfl) rfl (n_any S) rfl (o_val (s_new (n_lc [("item", 7)] rfl nd (i_seq rfl (s_var (i := 8) rfl (by first | exact Or.inl rfl | exact Or.inr (Or.inl rfl) | exact Or.inr (Or.inr rfl))) (fun _ h => pi_list h) (fun _ h => pi_tup h) (fun _ h => pi_str h)) (blkOk_by (by kernel_rfl)) (by decide) (fun _ _ _ _ _ _ => (g_name (i := 7) nd rfl (by first | exact Or.inl rfl | exact Or.inr rfl) rfl)) (fun _ _ _ _ _ _ => ts_nil) (fun _ _ _ _ _ _ => (s_cmp (opr_in rfl hu2) (o_var (i := 7) rfl (by first | exact Or.inl rfl | exact Or.inr (Or.inl rfl) | exact Or.inr (Or.inr rfl))) (o_var (i := 1) rfl (by first | exact Or.inl rfl | exact Or.inr (Or.inl rfl) | exact Or.inr (Or.inr rfl))))))))))))) (fun _ _ _ _ _ _ => (s_var (i := 8) rfl (by first | exact Or.inl rfl | exact Or.inr (Or.inl rfl) | exact Or.inr (Or.inr rfl)))))
   (k_cons (k_if (b_cmp (opr_eq rfl hu) (o_var (i := 4) rfl (by first | exact Or.inl rfl | exact Or.inr (Or.inl rfl) | exact Or.inr (Or.inr rfl))) (o_val (s_lst a_nil))) (k_cons (k_fld (c := 1) (i := 0) rfl (cls_Hitting S) (na_Hitting_best S) rfl (by first | exact Or.inl rfl | exact Or.inr (Or.inl rfl) | exact Or.inr (Or.inr rfl)) (s_tup (a_cons (s_var (i := 3) rfl (by first | exact Or.inl rfl | exact Or.inr (Or.inl rfl) | exact Or.inr (Or.inr rfl))) (a_cons (s_t1 (cr1_tuple rfl) rfl (n_tuple S) rfl (o_val (s_b1 (cr1_sorted rfl rfl hu) rfl (n_sorted S) rfl (o_var (i := 1) rfl (by first | exact Or.inl rfl | exact Or.inr (Or.inl rfl) | exact Or.inr (Or.inr rfl)))))) a_nil))))
   (k_cons k_retN
   k_nil)) k_nil)
   (k_cons (k_set (i := 5) nd rfl (by first | exact Or.inl rfl | exact Or.inr rfl) (s_minLen rfl rfl rfl (n_min S) rfl (n_len S) (o_val (s_new (n_lc [("items", 8)] rfl nd (i_seq rfl (s_var (i := 4) rfl (by first | exact Or.inl rfl | exact Or.inr (Or.inl rfl) | exact Or.inr (Or.inr rfl))) (fun _ h => pi_list h) (fun _ h => pi_tup h) (fun _ h => pi_str h)) (blkOk_by (by kernel_rfl)) (by decide) (fun _ _ _ _ _ _ => (g_name (i := 8) nd rfl (by first | exact Or.inl rfl | exact Or.inr rfl) rfl)) (fun _ _ _ _ _ _ => ts_nil) (fun _ _ _ _ _ _ => (s_new (n_lc [("item", 7)] rfl nd (i_seq rfl (s_var (i := 8) rfl (by first | exact Or.inl rfl | exact Or.inr (Or.inl rfl) | exact Or.inr (Or.inr rfl))) (fun _ h => pi_list h) (fun _ h => pi_tup h) (fun _ h => pi_str h)) (blkOk_by (by kernel_rfl)) (by decide) (fun _ _ _ _ _ _ => (g_name (i := 7) nd rfl (by first | exact Or.inl rfl | exact Or.inr rfl) rfl)) (fun _ _ _ _ _ _ => (ts_one (b_cmp (opr_nin rfl hu2) (o_var (i := 7) rfl (by first | exact Or.inl rfl | exact Or.inr (Or.inl rfl) | exact Or.inr (Or.inr rfl))) (o_var (i := 2) rfl (by first | exact Or.inl rfl | exact Or.inr (Or.inl rfl) | exact Or.inr (Or.inr rfl)))))) (fun _ _ _ _ _ _ => (s_var (i := 7) rfl (by first | exact Or.inl rfl | exact Or.inr (Or.inl rfl) | exact Or.inr (Or.inr rfl))))))))))))
   (k_cons (k_for (passes_of rfl) rfl (i_en rfl rfl (n_enumerate S) (s_var (i := 5) rfl (by first | exact Or.inl rfl | exact Or.inr (Or.inl rfl) | exact Or.inr (Or.inr rfl)))) (g_tup rfl rfl (gs_cons (g_name (i := 6) nd rfl (by first | exact Or.inl rfl | exact Or.inr rfl) rfl) (gs_cons (g_name (i := 7) nd rfl (by first | exact Or.inl rfl | exact Or.inr rfl) rfl) gs_nil))) (k_cons (k_ex (s_cl (c_mt (c := 1) (n := 3) rfl (a1_s (i := 0) rfl (by first | exact Or.inl rfl | exact Or.inr (Or.inl rfl) | exact Or.inr (Or.inr rfl))) (cls_Hitting S) (me_Hitting_look S) G_Hitting_look (room.mono (by omega)) (kb_Hitting_look_43 F_Hitting_look) pa0 grel_ord (len_ord (by decide) rfl) (r_cons (s_tup (a_star rfl (o_var (i := 1) rfl (by first | exact Or.inl rfl | exact Or.inr (Or.inl rfl) | exact Or.inr (Or.inr rfl))) (a_cons (s_var (i := 7) rfl (by first | exact Or.inl rfl | exact Or.inr (Or.inl rfl) | exact Or.inr (Or.inr rfl))) a_nil))) (r_cons (s_bin (opr_add rfl) (o_var (i := 2) rfl (by first | exact Or.inl rfl | exact Or.inr (Or.inl rfl) | exact Or.inr (Or.inr rfl))) (o_val (s_t1 (cr1_tuple rfl) rfl (n_tuple S) rfl (o_val (s_sl rfl (o_var (i := 5) rfl (by first | exact Or.inl rfl | exact Or.inr (Or.inl rfl) | exact Or.inr (Or.inr rfl))) l_no (l_so (s_var (i := 6) rfl (by first | exact Or.inl rfl | exact Or.inr (Or.inl rfl) | exact Or.inr (Or.inr rfl))))))))) (r_cons (s_bin (opr_add rfl) (o_var (i := 3) rfl (by first | exact Or.inl rfl | exact Or.inr (Or.inl rfl) | exact Or.inr (Or.inr rfl))) (o_val (s_dget hu1 (o_val (s_fld (c := 1) rfl (cls_Hitting S) (na_Hitting_own_price S) (o_var (i := 0) rfl (by first | exact Or.inl rfl | exact Or.inr (Or.inl rfl) | exact Or.inr (Or.inr rfl))))) (o_var (i := 7) rfl (by first | exact Or.inl rfl | exact Or.inr (Or.inl rfl) | exact Or.inr (Or.inr rfl)))))) r_nil))) kr_nil)))
   k_nil))
   k_nil))))), h⟩
theorem ok_Hitting_look (S : Sx K mg) {fd : FuncData} (F : At_Hitting_look K fd) : FnOk P w K mg base CX0 15 (He.fAd K ("Hitting", some "look")) fd ["self", "taken", "barred", "cost"] (spF (Tc K) 4 (f_Hitting_look 14)) := okr_Hitting_look S F 14
abbrev At_Hitting___init__ (K : PySem.W.Frag) (fd : FuncData) : Prop := FunD K "__init__" "Hitting.__init__" (defArgs s_Hitting___init__) (defBody s_Hitting___init__) (defScope s_Hitting___init__) [] [] (He.fAd K ("Hitting", some "__init__")) fd
theorem df_Hitting___init__ (S : Sx K mg) : ∃ fd, At_Hitting___init__ K fd := by
  obtain ⟨h, a, b, c⟩ := S.ex
  exact c.def_ 61 (d := d_Hitting___init__) rfl
theorem sc_Hitting___init__ : FnScope ["self", "sets", "price", "item"] ["self", "sets", "price"] (defScope s_Hitting___init__) := ⟨rfl, rfl, rfl, by decide +kernel, rfl, by decide +kernel, by decide +kernel⟩
theorem kb_Hitting___init___44 {fd : FuncData} (F : At_Hitting___init__ K fd) : KBn K fd ["self", "sets", "price"] 3 [] (ordL [0, 1, 2]) (ordL [0, 1, 2]) := kbn_ord 3 [0, 1, 2] F (fun _ _ _ _ _ _ us ws h1 h2 => match us, ws, h1, h2 with | [_, _, _], [], _, _ => rfl)
theorem ok_Hitting___init__ (S : Sx K mg) {fd : FuncData} (F : At_Hitting___init__ K fd) : FnOk P w K mg base CX0 17 (He.fAd K ("Hitting", some "__init__")) fd ["self", "sets", "price"] (spF (Tc K) 3 f_Hitting___init__) := by
  obtain ⟨fd_Hitting_look, F_Hitting_look⟩ := df_Hitting_look S
  have G_Hitting_look := ok_Hitting_look (P := P) (w := w) (base := base) S F_Hitting_look
  refine F.ok sc_Hitting___init__ (fun vs H Q E h => h.1) (fun cdv A outer s H vs Q E room h => ?_)
  obtain ⟨Y, h⟩ := fn_start (N := ["self", "sets", "price", "item"]) (n := 3) (m := 1) rfl h
  have hu : (A.deeper (envOfC "Hitting.__init__" (defScope s_Hitting___init__) s.heap.objs.size (He.fAd K ("Hitting", some "__init__")) cdv)).units + 64 < cLine := by have := room.un; omega
  have hu2 : (A.deeper (envOfC "Hitting.__init__" (defScope s_Hitting___init__) s.heap.objs.size (He.fAd K ("Hitting", some "__init__")) cdv)).units + 130 < cLine := by have := room.un; omega
  have hu0 : (A.deeper (envOfC "Hitting.__init__" (defScope s_Hitting___init__) s.heap.objs.size (He.fAd K ("Hitting", some "__init__")) cdv)).units < cLine := by omega
  have hu1 : (A.deeper (envOfC "Hitting.__init__" (defScope s_Hitting___init__) s.heap.objs.size (He.fAd K ("Hitting", some "__init__")) cdv)).units + 1 < cLine := by omega
  have nd := sc_Hitting___init__.nd
  exact ⟨_, (k_cons (k_fld (c := 1) (i := 0) rfl (cls_Hitting S) (na_Hitting_own_sets S) rfl (by first | exact Or.inl rfl | exact Or.inr (Or.inl rfl) | exact Or.inr (Or.inr rfl)) (s_var (i := 1) rfl (by first | exact Or.inl rfl | exact Or.inr (Or.inl rfl) | exact Or.inr (Or.inr rfl))))
 (k_cons (k_fld (c := 1) (i := 0) rfl (cls_Hitting S) (na_Hitting_own_price S) rfl (by first | exact Or.inl rfl | exact Or.inr (Or.inl rfl) | exact Or.inr (Or.inr rfl)) (s_var (i := 2) rfl (by first | exact Or.inl rfl | exact Or.inr (Or.inl rfl) | exact Or.inr (Or.inr rfl))))
 (k_cons (k_fld (c := 1) (i := 0) rfl (cls_Hitting S) (na_Hitting_best S) rfl (by first | exact Or.inl rfl | exact Or.inr (Or.inl rfl) | exact Or.inr (Or.inr rfl)) s_non)
 (k_cons (k_ex (s_cl (c_mt (c := 1) (n := 3) rfl (a1_s (i := 0) rfl (by first | exact Or.inl rfl | exact Or.inr (Or.inl rfl) | exact Or.inr (Or.inr rfl))) (cls_Hitting S) (me_Hitting_look S) G_Hitting_look (room.mono (by decide)) (kb_Hitting_look_43 F_Hitting_look) pa0 grel_ord (len_ord (by decide) rfl) (r_cons (s_t1 (cr1_tuple rfl) rfl (n_tuple S) rfl (o_val (s_new (n_lc [("item", 3)] rfl nd (i_seq rfl (s_b1 (cr1_sorted rfl rfl hu) rfl (n_sorted S) rfl (o_var (i := 2) rfl (by first | exact Or.inl rfl | exact Or.inr (Or.inl rfl) | exact Or.inr (Or.inr rfl)))) (fun _ h => pi_list h) (fun _ h => pi_tup h) (fun _ h => pi_str h)) (blkOk_by (by kernel_rfl)) (by decide) (fun _ _ _ _ _ _ => (g_name (i := 3) nd rfl (by first | exact Or.inl rfl | exact Or.inr rfl) rfl)) (fun _ _ _ _ _ _ => (ts_one (b_cmp (opr_eq rfl hu) (o_val (s_dget hu1 (o_var (i := 2) rfl (by first | exact Or.inl rfl | exact Or.inr (Or.inl rfl) | exact Or.inr (Or.inr rfl))) (o_var (i := 3) rfl (by first | exact Or.inl rfl | exact Or.inr (Or.inl rfl) | exact Or.inr (Or.inr rfl))))) (o_val s_int)))) (fun _ _ _ _ _ _ => (s_var (i := 3) rfl (by first | exact Or.inl rfl | exact Or.inr (Or.inl rfl) | exact Or.inr (Or.inr rfl)))))))) (r_cons (s_tup a_nil) (r_cons s_int r_nil))) kr_nil)))
 k_nil)))), h⟩
abbrev At_hits (K : PySem.W.Frag) (fd : FuncData) : Prop := FunD K "hits" "hits" (defArgs s_hits) (defBody s_hits) (defScope s_hits) [] [] (He.fAd K ("hits", none)) fd
theorem df_hits (S : Sx K mg) : ∃ fd, At_hits K fd := by
  obtain ⟨h, a, b, c⟩ := S.ex
  exact c.def_ 30 (d := d_hits) rfl
theorem sc_hits : FnScope ["sets", "price"] ["sets", "price"] (defScope s_hits) := ⟨rfl, rfl, rfl, by decide +kernel, rfl, by decide +kernel, by decide +kernel⟩
theorem kb_hits_45 {fd : FuncData} (F : At_hits K fd) : KBn K fd ["sets", "price"] 2 [] (ordL [0, 1]) (ordL [0, 1]) := kbn_ord 2 [0, 1] F (fun _ _ _ _ _ _ us ws h1 h2 => match us, ws, h1, h2 with | [_, _], [], _, _ => rfl)
theorem ok_hits (S : Sx K mg) {fd : FuncData} (F : At_hits K fd) : FnOk P w K mg base CX0 19 (He.fAd K ("hits", none)) fd ["sets", "price"] (spF (Tc K) 2 f_hits) := by
  obtain ⟨fd_Hitting___init__, F_Hitting___init__⟩ := df_Hitting___init__ S
  have G_Hitting___init__ := ok_Hitting___init__ (P := P) (w := w) (base := base) S F_Hitting___init__
  refine F.ok sc_hits (fun vs H Q E h => h.1) (fun cdv A outer s H vs Q E room h => ?_)
  obtain ⟨Y, h⟩ := fn_start (N := ["sets", "price"]) (n := 2) (m := 0) rfl h
  have hu : (A.deeper (envOfC "hits" (defScope s_hits) s.heap.objs.size (He.fAd K ("hits", none)) cdv)).units + 64 < cLine := by have := room.un; omega
  have hu2 : (A.deeper (envOfC "hits" (defScope s_hits) s.heap.objs.size (He.fAd K ("hits", none)) cdv)).units + 130 < cLine := by have := room.un; omega
  have hu0 : (A.deeper (envOfC "hits" (defScope s_hits) s.heap.objs.size (He.fAd K ("hits", none)) cdv)).units < cLine := by omega
  have hu1 : (A.deeper (envOfC "hits" (defScope s_hits) s.heap.objs.size (He.fAd K ("hits", none)) cdv)).units + 1 < cLine := by omega
  have nd := sc_hits.nd
  exact ⟨_, (k_cons (k_ret (s_fld (c := 1) rfl (cls_Hitting S) (na_Hitting_best S) (o_val (s_new (n_mk (T := Tc K) (c := 1) (n := 2) (mk_Hitting S) G_Hitting___init__ (room.mono (by decide)) rfl (n_Hitting S) (kb_Hitting___init___44 F_Hitting___init__) pa0 grel_ord (len_ord (by decide) rfl) (r_cons (s_var (i := 0) rfl (by first | exact Or.inl rfl | exact Or.inr (Or.inl rfl) | exact Or.inr (Or.inr rfl))) (r_cons (s_var (i := 1) rfl (by first | exact Or.inl rfl | exact Or.inr (Or.inl rfl) | exact Or.inr (Or.inr rfl))) r_nil)) kr_nil)))))
 k_nil), h⟩
abbrev At_least_cost (K : PySem.W.Frag) (fd : FuncData) : Prop := FunD K "least_cost" "least_cost" (defArgs s_least_cost) (defBody s_least_cost) (defScope s_least_cost) [] [] (He.fAd K ("least_cost", none)) fd
theorem df_least_cost (S : Sx K mg) : ∃ fd, At_least_cost K fd := by
  obtain ⟨h, a, b, c⟩ := S.ex
  exact c.def_ 40 (d := d_least_cost) rfl
theorem sc_least_cost : FnScope ["code"] ["code"] (defScope s_least_cost) := ⟨rfl, rfl, rfl, by decide +kernel, rfl, by decide +kernel, by decide +kernel⟩
theorem kb_least_cost_56 {fd : FuncData} (F : At_least_cost K fd) : KBn K fd ["code"] 0 ["code"] (ordL [0]) (ordL [0]) := kbn_ord 0 [0] F (fun _ _ _ _ _ _ us ws h1 h2 => match us, ws, h1, h2 with | [], [_], _, _ => rfl)
theorem ok_least_cost (S : Sx K mg) {fd : FuncData} (F : At_least_cost K fd) : FnOk P w K mg base CX0 21 (He.fAd K ("least_cost", none)) fd ["code"] (spF (Tc K) 1 f_least_cost) := by
  obtain ⟨fd_hits, F_hits⟩ := df_hits S
  have G_hits := ok_hits (P := P) (w := w) (base := base) S F_hits
  obtain ⟨fd_loops, F_loops⟩ := df_loops S
  have G_loops := ok_loops (P := P) (w := w) (base := base) S F_loops
  obtain ⟨fd_price_of, F_price_of⟩ := df_price_of S
  have G_price_of := ok_price_of (P := P) (w := w) (base := base) S F_price_of
  refine F.ok sc_least_cost (fun vs H Q E h => h.1) (fun cdv A outer s H vs Q E room h => ?_)
  obtain ⟨Y, h⟩ := fn_start (N := ["code"]) (n := 1) (m := 0) rfl h
  have hu : (A.deeper (envOfC "least_cost" (defScope s_least_cost) s.heap.objs.size (He.fAd K ("least_cost", none)) cdv)).units + 64 < cLine := by have := room.un; omega
  have hu2 : (A.deeper (envOfC "least_cost" (defScope s_least_cost) s.heap.objs.size (He.fAd K ("least_cost", none)) cdv)).units + 130 < cLine := by have := room.un; omega
  have hu0 : (A.deeper (envOfC "least_cost" (defScope s_least_cost) s.heap.objs.size (He.fAd K ("least_cost", none)) cdv)).units < cLine := by omega
  have hu1 : (A.deeper (envOfC "least_cost" (defScope s_least_cost) s.heap.objs.size (He.fAd K ("least_cost", none)) cdv)).units + 1 < cLine := by omega
  have nd := sc_least_cost.nd
  exact ⟨_, (k_cons (k_ret (s_ix rfl (o_val (s_cl (c_cl (n := 2) G_hits (room.mono (by decide)) rfl (n_hits S) F_hits.kp (kb_hits_45 F_hits) pa0 grel_ord (len_ord (by decide) rfl) (r_cons (s_cl (c_cl (n := 1) G_loops (room.mono (by decide)) rfl (n_loops S) F_loops.kp (kb_loops_29 F_loops) pa0 grel_ord (len_ord (by decide) rfl) (r_cons (s_var (i := 0) rfl (by first | exact Or.inl rfl | exact Or.inr (Or.inl rfl) | exact Or.inr (Or.inr rfl))) r_nil) kr_nil)) (r_cons (s_cl (c_cl (n := 1) G_price_of (room.mono (by decide)) rfl (n_price_of S) F_price_of.kp (kb_price_of_27 F_price_of) pa0 grel_ord (len_ord (by decide) rfl) (r_cons (s_var (i := 0) rfl (by first | exact Or.inl rfl | exact Or.inr (Or.inl rfl) | exact Or.inr (Or.inr rfl))) r_nil) kr_nil)) r_nil)) kr_nil))) (o_val s_int)))
 k_nil), h⟩
abbrev At_least_cut (K : PySem.W.Frag) (fd : FuncData) : Prop := FunD K "least_cut" "least_cut" (defArgs s_least_cut) (defBody s_least_cut) (defScope s_least_cut) [] [] (He.fAd K ("least_cut", none)) fd
theorem df_least_cut (S : Sx K mg) : ∃ fd, At_least_cut K fd := by
  obtain ⟨h, a, b, c⟩ := S.ex
  exact c.def_ 41 (d := d_least_cut) rfl
theorem sc_least_cut : FnScope ["code"] ["code"] (defScope s_least_cut) := ⟨rfl, rfl, rfl, by decide +kernel, rfl, by decide +kernel, by decide +kernel⟩
theorem kb_least_cut_49 {fd : FuncData} (F : At_least_cut K fd) : KBn K fd ["code"] 1 [] (ordL [0]) (ordL [0]) := kbn_ord 1 [0] F (fun _ _ _ _ _ _ us ws h1 h2 => match us, ws, h1, h2 with | [_], [], _, _ => rfl)
theorem kb_least_cut_57 {fd : FuncData} (F : At_least_cut K fd) : KBn K fd ["code"] 0 ["code"] (ordL [0]) (ordL [0]) := kbn_ord 0 [0] F (fun _ _ _ _ _ _ us ws h1 h2 => match us, ws, h1, h2 with | [], [_], _, _ => rfl)
theorem ok_least_cut (S : Sx K mg) {fd : FuncData} (F : At_least_cut K fd) : FnOk P w K mg base CX0 21 (He.fAd K ("least_cut", none)) fd ["code"] (spF (Tc K) 1 f_least_cut) := by
  obtain ⟨fd_hits, F_hits⟩ := df_hits S
  have G_hits := ok_hits (P := P) (w := w) (base := base) S F_hits
  obtain ⟨fd_loops, F_loops⟩ := df_loops S
  have G_loops := ok_loops (P := P) (w := w) (base := base) S F_loops
  obtain ⟨fd_price_of, F_price_of⟩ := df_price_of S
  have G_price_of := ok_price_of (P := P) (w := w) (base := base) S F_price_of
  refine F.ok sc_least_cut (fun vs H Q E h => h.1) (fun cdv A outer s H vs Q E room h => ?_)
  obtain ⟨Y, h⟩ := fn_start (N := ["code"]) (n := 1) (m := 0) rfl h
  have hu : (A.deeper (envOfC "least_cut" (defScope s_least_cut) s.heap.objs.size (He.fAd K ("least_cut", none)) cdv)).units + 64 < cLine := by have := room.un; omega
  have hu2 : (A.deeper (envOfC "least_cut" (defScope s_least_cut) s.heap.objs.size (He.fAd K ("least_cut", none)) cdv)).units + 130 < cLine := by have := room.un; omega
  have hu0 : (A.deeper (envOfC "least_cut" (defScope s_least_cut) s.heap.objs.size (He.fAd K ("least_cut", none)) cdv)).units < cLine := by omega
  have hu1 : (A.deeper (envOfC "least_cut" (defScope s_least_cut) s.heap.objs.size (He.fAd K ("least_cut", none)) cdv)).units + 1 < cLine := by omega
  have nd := sc_least_cut.nd
  exact ⟨_, (k_cons (k_ret (s_ix rfl (o_val (s_cl (c_cl (n := 2) G_hits (room.mono (by decide)) rfl (n_hits S) F_hits.kp (kb_hits_45 F_hits) pa0 grel_ord (len_ord (by decide) rfl) (r_cons (s_cl (c_cl (n := 1) G_loops (room.mono (by decide)) rfl (n_loops S) F_loops.kp (kb_loops_29 F_loops) pa0 grel_ord (len_ord (by decide) rfl) (r_cons (s_var (i := 0) rfl (by first | exact Or.inl rfl | exact Or.inr (Or.inl rfl) | exact Or.inr (Or.inr rfl))) r_nil) kr_nil)) (r_cons (s_cl (c_cl (n := 1) G_price_of (room.mono (by decide)) rfl (n_price_of S) F_price_of.kp (kb_price_of_27 F_price_of) pa0 grel_ord (len_ord (by decide) rfl) (r_cons (s_var (i := 0) rfl (by first | exact Or.inl rfl | exact Or.inr (Or.inl rfl) | exact Or.inr (Or.inr rfl))) r_nil) kr_nil)) r_nil)) kr_nil))) (o_val s_int)))
 k_nil), h⟩
abbrev At_least_within (K : PySem.W.Frag) (fd : FuncData) : Prop := FunD K "least_within" "least_within" (defArgs s_least_within) (defBody s_least_within) (defScope s_least_within) [] [] (He.fAd K ("least_within", none)) fd
theorem df_least_within (S : Sx K mg) : ∃ fd, At_least_within K fd := by
  obtain ⟨h, a, b, c⟩ := S.ex
  exact c.def_ 42 (d := d_least_within) rfl
theorem sc_least_within : FnScope ["code", "lot", "sets", "loop", "items", "price", "number"] ["code", "lot"] (defScope s_least_within) := ⟨rfl, rfl, rfl, by decide +kernel, rfl, by decide +kernel, by decide +kernel⟩
theorem kb_least_within_53 {fd : FuncData} (F : At_least_within K fd) : KBn K fd ["code", "lot"] 0 ["lot", "code"] (ordL [1, 0]) (ordL [1, 0]) := kbn_ord 0 [1, 0] F (fun _ _ _ _ _ _ us ws h1 h2 => match us, ws, h1, h2 with | [], [_, _], _, _ => rfl)
theorem ok_least_within (S : Sx K mg) {fd : FuncData} (F : At_least_within K fd) : FnOk P w K mg base CX0 21 (He.fAd K ("least_within", none)) fd ["code", "lot"] (spF (Tc K) 2 f_least_within) := by
  obtain ⟨fd_hits, F_hits⟩ := df_hits S
  have G_hits := ok_hits (P := P) (w := w) (base := base) S F_hits
  obtain ⟨fd_loops, F_loops⟩ := df_loops S
  have G_loops := ok_loops (P := P) (w := w) (base := base) S F_loops
  obtain ⟨fd_need_lot, F_need_lot⟩ := df_need_lot S
  have G_need_lot := ok_need_lot (P := P) (w := w) (base := base) S F_need_lot
  obtain ⟨fd_price_of, F_price_of⟩ := df_price_of S
  have G_price_of := ok_price_of (P := P) (w := w) (base := base) S F_price_of
  refine F.ok sc_least_within (fun vs H Q E h => h.1) (fun cdv A outer s H vs Q E room h => ?_)
  obtain ⟨Y, h⟩ := fn_start (N := ["code", "lot", "sets", "loop", "items", "price", "number"]) (n := 2) (m := 5) rfl h
  have hu : (A.deeper (envOfC "least_within" (defScope s_least_within) s.heap.objs.size (He.fAd K ("least_within", none)) cdv)).units + 64 < cLine := by have := room.un; omega
  have hu2 : (A.deeper (envOfC "least_within" (defScope s_least_within) s.heap.objs.size (He.fAd K ("least_within", none)) cdv)).units + 130 < cLine := by have := room.un; omega
  have hu0 : (A.deeper (envOfC "least_within" (defScope s_least_within) s.heap.objs.size (He.fAd K ("least_within", none)) cdv)).units < cLine := by omega
  have hu1 : (A.deeper (envOfC "least_within" (defScope s_least_within) s.heap.objs.size (He.fAd K ("least_within", none)) cdv)).units + 1 < cLine := by omega
  have nd := sc_least_within.nd
  exact ⟨_, (k_cons (k_ex (s_cl (c_cl (n := 2) G_need_lot (room.mono (by decide)) rfl (n_need_lot S) F_need_lot.kp (kb_need_lot_39 F_need_lot) pa0 grel_ord (len_ord (by decide) rfl) (r_cons (s_var (i := 0) rfl (by first | exact Or.inl rfl | exact Or.inr (Or.inl rfl) | exact Or.inr (Or.inr rfl))) (r_cons (s_var (i := 1) rfl (by first | exact Or.inl rfl | exact Or.inr (Or.inl rfl) | exact Or.inr (Or.inr rfl))) r_nil)) kr_nil)))
 (k_cons (k_setLc [("loop", 3)] rfl nd (i := 2) rfl rfl (by rfl) (i_seq rfl (s_cl (c_cl (n := 1) G_loops (room.mono (by decide)) rfl (n_loops S) F_loops.kp (kb_loops_29 F_loops) pa0 grel_ord (len_ord (by decide) rfl) (r_cons (s_var (i := 0) rfl (by first | exact Or.inl rfl | exact Or.inr (Or.inl rfl) | exact Or.inr (Or.inr rfl))) r_nil) kr_nil)) (fun _ h => pi_list h) (fun _ h => pi_tup h) (fun _ h => pi_str h)) (blkOk_by (by kernel_rfl)) (by decide) (fun _ _ _ _ _ _ => (g_name (i := 3) nd rfl (by first | exact Or.inl rfl | exact Or.inr rfl) rfl)) (fun _ _ _ _ _ _ => ts_nil) (fun _ _ _ _ _ _ => (s_tup (a_cons (s_var (i := 3) rfl (by first | exact Or.inl rfl | exact Or.inr (Or.inl rfl) | exact Or.inr (Or.inr rfl))) (a_cons (s_t1 (cr1_tuple rfl) rfl (n_tuple S) rfl (o_val (s_new (n_lc [("number", 6)] rfl nd (i_seq rfl (s_var (i := 3) rfl (by first | exact Or.inl rfl | exact Or.inr (Or.inl rfl) | exact Or.inr (Or.inr rfl))) (fun _ h => pi_list h) (fun _ h => pi_tup h) (fun _ h => pi_str h)) (blkOk_by (by kernel_rfl)) (by decide) (fun _ _ _ _ _ _ => (g_name (i := 6) nd rfl (by first | exact Or.inl rfl | exact Or.inr rfl) rfl)) (fun _ _ _ _ _ _ => (ts_one (b_cmp (opr_in rfl hu2) (o_var (i := 6) rfl (by first | exact Or.inl rfl | exact Or.inr (Or.inl rfl) | exact Or.inr (Or.inr rfl))) (o_var (i := 1) rfl (by first | exact Or.inl rfl | exact Or.inr (Or.inl rfl) | exact Or.inr (Or.inr rfl)))))) (fun _ _ _ _ _ _ => (s_var (i := 6) rfl (by first | exact Or.inl rfl | exact Or.inr (Or.inl rfl) | exact Or.inr (Or.inr rfl)))))))) a_nil)))))
 (k_cons (k_for (passes_of rfl) rfl (i_seq rfl (s_var (i := 2) rfl (by first | exact Or.inl rfl | exact Or.inr (Or.inl rfl) | exact Or.inr (Or.inr rfl))) (fun _ h => pi_list h) (fun _ h => pi_tup h) (fun _ h => pi_str h)) (g_tup rfl rfl (gs_cons (g_name (i := 3) nd rfl (by first | exact Or.inl rfl | exact Or.inr rfl) rfl) (gs_cons (g_name (i := 4) nd rfl (by first | exact Or.inl rfl | exact Or.inr rfl) rfl) gs_nil))) (k_cons (k_if (b_cmp (opr_eq rfl hu) (o_var (i := 4) rfl (by first | exact Or.inl rfl | exact Or.inr (Or.inl rfl) | exact Or.inr (Or.inr rfl))) (o_val (s_tup a_nil))) k_noB k_nil)
 k_nil))
 (k_cons (k_set (i := 5) nd rfl (by first | exact Or.inl rfl | exact Or.inr rfl) (s_new (n_dc [("number", 6), ("price", 5)] rfl nd (i_items (s_cl (c_cl (n := 1) G_price_of (room.mono (by decide)) rfl (n_price_of S) F_price_of.kp (kb_price_of_27 F_price_of) pa0 grel_ord (len_ord (by decide) rfl) (r_cons (s_var (i := 0) rfl (by first | exact Or.inl rfl | exact Or.inr (Or.inl rfl) | exact Or.inr (Or.inr rfl))) r_nil) kr_nil))) (blkOk_by (by kernel_rfl)) (by decide) (fun _ _ _ _ _ _ => (g_tup rfl rfl (gs_cons (g_name (i := 6) nd rfl (by first | exact Or.inl rfl | exact Or.inr rfl) rfl) (gs_cons (g_name (i := 5) nd rfl (by first | exact Or.inl rfl | exact Or.inr rfl) rfl) gs_nil)))) (fun _ _ _ _ _ _ => (ts_one (b_cmp (opr_in rfl hu2) (o_var (i := 6) rfl (by first | exact Or.inl rfl | exact Or.inr (Or.inl rfl) | exact Or.inr (Or.inr rfl))) (o_var (i := 1) rfl (by first | exact Or.inl rfl | exact Or.inr (Or.inl rfl) | exact Or.inr (Or.inr rfl)))))) (fun _ _ _ _ _ _ => (s_var (i := 6) rfl (by first | exact Or.inl rfl | exact Or.inr (Or.inl rfl) | exact Or.inr (Or.inr rfl)))) (fun _ _ _ _ _ _ => (s_var (i := 5) rfl (by first | exact Or.inl rfl | exact Or.inr (Or.inl rfl) | exact Or.inr (Or.inr rfl)))))))
 (k_cons (k_ret (s_ix rfl (o_val (s_cl (c_cl (n := 2) G_hits (room.mono (by decide)) rfl (n_hits S) F_hits.kp (kb_hits_45 F_hits) pa0 grel_ord (len_ord (by decide) rfl) (r_cons (s_new (n_lc [("loop", 3), ("items", 4)] rfl nd (i_seq rfl (s_var (i := 2) rfl (by first | exact Or.inl rfl | exact Or.inr (Or.inl rfl) | exact Or.inr (Or.inr rfl))) (fun _ h => pi_list h) (fun _ h => pi_tup h) (fun _ h => pi_str h)) (blkOk_by (by kernel_rfl)) (by decide) (fun _ _ _ _ _ _ => (g_tup rfl rfl (gs_cons (g_name (i := 3) nd rfl (by first | exact Or.inl rfl | exact Or.inr rfl) rfl) (gs_cons (g_name (i := 4) nd rfl (by first | exact Or.inl rfl | exact Or.inr rfl) rfl) gs_nil)))) (fun _ _ _ _ _ _ => ts_nil) (fun _ _ _ _ _ _ => (s_var (i := 4) rfl (by first | exact Or.inl rfl | exact Or.inr (Or.inl rfl) | exact Or.inr (Or.inr rfl)))))) (r_cons (s_var (i := 5) rfl (by first | exact Or.inl rfl | exact Or.inr (Or.inl rfl) | exact Or.inr (Or.inr rfl))) r_nil)) kr_nil))) (o_val s_int)))
 k_nil))))), h⟩
abbrev At_one_door (K : PySem.W.Frag) (fd : FuncData) : Prop := FunD K "one_door" "one_door" (defArgs s_one_door) (defBody s_one_door) (defScope s_one_door) [] [] (He.fAd K ("one_door", none)) fd
theorem df_one_door (S : Sx K mg) : ∃ fd, At_one_door K fd := by
  obtain ⟨h, a, b, c⟩ := S.ex
  exact c.def_ 21 (d := d_one_door) rfl
theorem sc_one_door : FnScope ["code", "loop"] ["code"] (defScope s_one_door) := ⟨rfl, rfl, rfl, by decide +kernel, rfl, by decide +kernel, by decide +kernel⟩
theorem kb_one_door_61 {fd : FuncData} (F : At_one_door K fd) : KBn K fd ["code"] 0 ["code"] (ordL [0]) (ordL [0]) := kbn_ord 0 [0] F (fun _ _ _ _ _ _ us ws h1 h2 => match us, ws, h1, h2 with | [], [_], _, _ => rfl)
theorem ok_one_door (S : Sx K mg) {fd : FuncData} (F : At_one_door K fd) : FnOk P w K mg base CX0 19 (He.fAd K ("one_door", none)) fd ["code"] (spF (Tc K) 1 f_one_door) := by
  obtain ⟨fd_door_so, F_door_so⟩ := df_door_so S
  have G_door_so := ok_door_so (P := P) (w := w) (base := base) S F_door_so
  obtain ⟨fd_loops, F_loops⟩ := df_loops S
  have G_loops := ok_loops (P := P) (w := w) (base := base) S F_loops
  refine F.ok sc_one_door (fun vs H Q E h => h.1) (fun cdv A outer s H vs Q E room h => ?_)
  obtain ⟨Y, h⟩ := fn_start (N := ["code", "loop"]) (n := 1) (m := 1) rfl h
  have hu : (A.deeper (envOfC "one_door" (defScope s_one_door) s.heap.objs.size (He.fAd K ("one_door", none)) cdv)).units + 64 < cLine := by have := room.un; omega
  have hu2 : (A.deeper (envOfC "one_door" (defScope s_one_door) s.heap.objs.size (He.fAd K ("one_door", none)) cdv)).units + 130 < cLine := by have := room.un; omega
  have hu0 : (A.deeper (envOfC "one_door" (defScope s_one_door) s.heap.objs.size (He.fAd K ("one_door", none)) cdv)).units < cLine := by omega
  have hu1 : (A.deeper (envOfC "one_door" (defScope s_one_door) s.heap.objs.size (He.fAd K ("one_door", none)) cdv)).units + 1 < cLine := by omega
  have nd := sc_one_door.nd
  exact ⟨_, (k_cons (k_ret (s_b1 (cr1_all rfl rfl) rfl (n_all S) rfl (o_val (s_new (n_lc [("loop", 1)] rfl nd (i_seq rfl (s_cl (c_cl (n := 1) G_loops (room.mono (by decide)) rfl (n_loops S) F_loops.kp (kb_loops_29 F_loops) pa0 grel_ord (len_ord (by decide) rfl) (r_cons (s_var (i := 0) rfl (by first | exact Or.inl rfl | exact Or.inr (Or.inl rfl) | exact Or.inr (Or.inr rfl))) r_nil) kr_nil)) (fun _ h => pi_list h) (fun _ h => pi_tup h) (fun _ h => pi_str h)) (blkOk_by (by kernel_rfl)) (by decide) (fun _ _ _ _ _ _ => (g_name (i := 1) nd rfl (by first | exact Or.inl rfl | exact Or.inr rfl) rfl)) (fun _ _ _ _ _ _ => ts_nil) (fun _ _ _ _ _ _ => (s_cmp (opr_isn) (o_val (s_cl (c_cl (n := 2) G_door_so (room.mono (by decide)) rfl (n_door_so S) F_door_so.kp (kb_door_so_41 F_door_so) pa0 grel_ord (len_ord (by decide) rfl) (r_cons (s_var (i := 0) rfl (by first | exact Or.inl rfl | exact Or.inr (Or.inl rfl) | exact Or.inr (Or.inr rfl))) (r_cons (s_var (i := 1) rfl (by first | exact Or.inl rfl | exact Or.inr (Or.inl rfl) | exact Or.inr (Or.inr rfl))) r_nil)) kr_nil))) (o_val s_non))))))))
 k_nil), h⟩
end
end Wk
namespace Wk
open PySem PySem.Spec PyProof.Rows L2 Lc Hd
section
variable {P : Program} {w : World} {K : PySem.W.Frag} {mg : Str → Option Value} {base : Heap}
abbrev At_need_one_door (K : PySem.W.Frag) (fd : FuncData) : Prop := FunD K "need_one_door" "need_one_door" (defArgs s_need_one_door) (defBody s_need_one_door) (defScope s_need_one_door) [] [] (He.fAd K ("need_one_door", none)) fd
theorem df_need_one_door (S : Sx K mg) : ∃ fd, At_need_one_door K fd := by
  obtain ⟨h, a, b, c⟩ := S.ex
  exact c.def_ 26 (d := d_need_one_door) rfl
theorem sc_need_one_door : FnScope ["code", "paper"] ["code"] (defScope s_need_one_door) := ⟨rfl, rfl, rfl, by decide +kernel, rfl, by decide +kernel, by decide +kernel⟩
theorem kb_need_one_door_50 {fd : FuncData} (F : At_need_one_door K fd) : KBn K fd ["code"] 1 [] (ordL [0]) (ordL [0]) := kbn_ord 1 [0] F (fun _ _ _ _ _ _ us ws h1 h2 => match us, ws, h1, h2 with | [_], [], _, _ => rfl)
theorem ok_need_one_door (S : Sx K mg) {fd : FuncData} (F : At_need_one_door K fd) : FnOk P w K mg base CX0 21 (He.fAd K ("need_one_door", none)) fd ["code"] (spF (Tc K) 1 f_need_one_door) := by
  obtain ⟨fd_doors_paper, F_doors_paper⟩ := df_doors_paper S
  have G_doors_paper := ok_doors_paper (P := P) (w := w) (base := base) S F_doors_paper
  refine F.ok sc_need_one_door (fun vs H Q E h => h.1) (fun cdv A outer s H vs Q E room h => ?_)
  obtain ⟨Y, h⟩ := fn_start (N := ["code", "paper"]) (n := 1) (m := 1) rfl h
  have hu : (A.deeper (envOfC "need_one_door" (defScope s_need_one_door) s.heap.objs.size (He.fAd K ("need_one_door", none)) cdv)).units + 64 < cLine := by have := room.un; omega
  have hu2 : (A.deeper (envOfC "need_one_door" (defScope s_need_one_door) s.heap.objs.size (He.fAd K ("need_one_door", none)) cdv)).units + 130 < cLine := by have := room.un; omega
  have hu0 : (A.deeper (envOfC "need_one_door" (defScope s_need_one_door) s.heap.objs.size (He.fAd K ("need_one_door", none)) cdv)).units < cLine := by omega
  have hu1 : (A.deeper (envOfC "need_one_door" (defScope s_need_one_door) s.heap.objs.size (He.fAd K ("need_one_door", none)) cdv)).units + 1 < cLine := by omega
  have nd := sc_need_one_door.nd
  exact ⟨_, (k_cons (k_set (i := 1) nd rfl (by first | exact Or.inl rfl | exact Or.inr rfl) (s_cl (c_cl (n := 1) G_doors_paper (room.mono (by decide)) rfl (n_doors_paper S) F_doors_paper.kp (kb_doors_paper_46 F_doors_paper) pa0 grel_ord (len_ord (by decide) rfl) (r_cons (s_var (i := 0) rfl (by first | exact Or.inl rfl | exact Or.inr (Or.inl rfl) | exact Or.inr (Or.inr rfl))) r_nil) kr_nil)))
 (k_cons (k_if (b_cmp (opr_eq rfl hu) (o_val (s_ix rfl (o_var (i := 1) rfl (by first | exact Or.inl rfl | exact Or.inr (Or.inl rfl) | exact Or.inr (Or.inr rfl))) (o_val s_int))) (o_val (s_gS rfl (n_SEVERAL S)))) k_noB k_nil)
 k_nil)), h⟩
abbrev At_times_of (K : PySem.W.Frag) (fd : FuncData) : Prop := FunD K "times_of" "times_of" (defArgs s_times_of) (defBody s_times_of) (defScope s_times_of) [] [] (He.fAd K ("times_of", none)) fd
theorem df_times_of (S : Sx K mg) : ∃ fd, At_times_of K fd := by
  obtain ⟨h, a, b, c⟩ := S.ex
  exact c.def_ 31 (d := d_times_of) rfl
theorem sc_times_of : FnScope ["sets", "price", "total", "items", "least", "most", "middle", "lower", "item", "value"] ["sets", "price", "total", "items"] (defScope s_times_of) := ⟨rfl, rfl, rfl, by decide +kernel, rfl, by decide +kernel, by decide +kernel⟩
theorem kb_times_of_47 {fd : FuncData} (F : At_times_of K fd) : KBn K fd ["sets", "price", "total", "items"] 4 [] (ordL [0, 1, 2, 3]) (ordL [0, 1, 2, 3]) := kbn_ord 4 [0, 1, 2, 3] F (fun _ _ _ _ _ _ us ws h1 h2 => match us, ws, h1, h2 with | [_, _, _, _], [], _, _ => rfl)
theorem ok_times_of (S : Sx K mg) {fd : FuncData} (F : At_times_of K fd) : FnOk P w K mg base CX0 21 (He.fAd K ("times_of", none)) fd ["sets", "price", "total", "items"] (spF (Tc K) 4 f_times_of) := by
  obtain ⟨fd_hits, F_hits⟩ := df_hits S
  have G_hits := ok_hits (P := P) (w := w) (base := base) S F_hits
  refine F.ok sc_times_of (fun vs H Q E h => h.1) (fun cdv A outer s H vs Q E room h => ?_)
  obtain ⟨Y, h⟩ := fn_start (N := ["sets", "price", "total", "items", "least", "most", "middle", "lower", "item", "value"]) (n := 4) (m := 6) rfl h
  have hu : (A.deeper (envOfC "times_of" (defScope s_times_of) s.heap.objs.size (He.fAd K ("times_of", none)) cdv)).units + 64 < cLine := by have := room.un; omega
  have hu2 : (A.deeper (envOfC "times_of" (defScope s_times_of) s.heap.objs.size (He.fAd K ("times_of", none)) cdv)).units + 130 < cLine := by have := room.un; omega
  have hu0 : (A.deeper (envOfC "times_of" (defScope s_times_of) s.heap.objs.size (He.fAd K ("times_of", none)) cdv)).units < cLine := by omega
  have hu1 : (A.deeper (envOfC "times_of" (defScope s_times_of) s.heap.objs.size (He.fAd K ("times_of", none)) cdv)).units + 1 < cLine := by omega
  have nd := sc_times_of.nd
  exact ⟨_, (k_cons (k_par2 (i := 4) (j := 5) rfl nd rfl rfl (by decide) rfl rfl (p_val s_int (p_val (s_b1 (cr1_minF rfl rfl hu) rfl (n_min S) rfl (o_val (s_new (n_lc [("item", 8)] rfl nd (i_seq rfl (s_var (i := 3) rfl (by first | exact Or.inl rfl | exact Or.inr (Or.inl rfl) | exact Or.inr (Or.inr rfl))) (fun _ h => pi_list h) (fun _ h => pi_tup h) (fun _ h => pi_str h)) (blkOk_by (by kernel_rfl)) (by decide) (fun _ _ _ _ _ _ => (g_name (i := 8) nd rfl (by first | exact Or.inl rfl | exact Or.inr rfl) rfl)) (fun _ _ _ _ _ _ => ts_nil) (fun _ _ _ _ _ _ => (s_dget hu1 (o_var (i := 1) rfl (by first | exact Or.inl rfl | exact Or.inr (Or.inl rfl) | exact Or.inr (Or.inr rfl))) (o_var (i := 8) rfl (by first | exact Or.inl rfl | exact Or.inr (Or.inl rfl) | exact Or.inr (Or.inr rfl))))))))) p_nil)) rfl)
 (k_cons (k_wh 64 (passes_of rfl) (b_cmp (opr_lt rfl hu0) (o_var (i := 4) rfl (by first | exact Or.inl rfl | exact Or.inr (Or.inl rfl) | exact Or.inr (Or.inr rfl))) (o_var (i := 5) rfl (by first | exact Or.inl rfl | exact Or.inr (Or.inl rfl) | exact Or.inr (Or.inr rfl)))) (k_cons (k_set (i := 6) nd rfl (by first | exact Or.inl rfl | exact Or.inr rfl) (s_bin (opr_fdiv) (o_val (s_bin (opr_add rfl) (o_val (s_bin (opr_add rfl) (o_var (i := 4) rfl (by first | exact Or.inl rfl | exact Or.inr (Or.inl rfl) | exact Or.inr (Or.inr rfl))) (o_var (i := 5) rfl (by first | exact Or.inl rfl | exact Or.inr (Or.inl rfl) | exact Or.inr (Or.inr rfl))))) (o_val s_int))) (o_val s_int)))
 (k_cons (k_setDc [("item", 8), ("value", 9)] rfl nd (i := 7) rfl rfl (by rfl) (i_items (s_var (i := 1) rfl (by first | exact Or.inl rfl | exact Or.inr (Or.inl rfl) | exact Or.inr (Or.inr rfl)))) (blkOk_by (by kernel_rfl)) (by decide) (fun _ _ _ _ _ _ => (g_tup rfl rfl (gs_cons (g_name (i := 8) nd rfl (by first | exact Or.inl rfl | exact Or.inr rfl) rfl) (gs_cons (g_name (i := 9) nd rfl (by first | exact Or.inl rfl | exact Or.inr rfl) rfl) gs_nil)))) (fun _ _ _ _ _ _ => ts_nil) (fun _ _ _ _ _ _ => (s_var (i := 8) rfl (by first | exact Or.inl rfl | exact Or.inr (Or.inl rfl) | exact Or.inr (Or.inr rfl)))) (fun _ _ _ _ _ _ => (s_bin (opr_sub) (o_var (i := 9) rfl (by first | exact Or.inl rfl | exact Or.inr (Or.inl rfl) | exact Or.inr (Or.inr rfl))) (o_val (s_ite (b_cmp (opr_in rfl hu2) (o_var (i := 8) rfl (by first | exact Or.inl rfl | exact Or.inr (Or.inl rfl) | exact Or.inr (Or.inr rfl))) (o_var (i := 3) rfl (by first | exact Or.inl rfl | exact Or.inr (Or.inl rfl) | exact Or.inr (Or.inr rfl)))) (s_var (i := 6) rfl (by first | exact Or.inl rfl | exact Or.inr (Or.inl rfl) | exact Or.inr (Or.inr rfl))) s_int)))))
 (k_cons (k_if (b_cmp (opr_eq rfl hu) (o_val (s_ix rfl (o_val (s_cl (c_cl (n := 2) G_hits (room.mono (by decide)) rfl (n_hits S) F_hits.kp (kb_hits_45 F_hits) pa0 grel_ord (len_ord (by decide) rfl) (r_cons (s_var (i := 0) rfl (by first | exact Or.inl rfl | exact Or.inr (Or.inl rfl) | exact Or.inr (Or.inr rfl))) (r_cons (s_var (i := 7) rfl (by first | exact Or.inl rfl | exact Or.inr (Or.inl rfl) | exact Or.inr (Or.inr rfl))) r_nil)) kr_nil))) (o_val s_int))) (o_val (s_bin (opr_sub) (o_var (i := 2) rfl (by first | exact Or.inl rfl | exact Or.inr (Or.inl rfl) | exact Or.inr (Or.inr rfl))) (o_var (i := 6) rfl (by first | exact Or.inl rfl | exact Or.inr (Or.inl rfl) | exact Or.inr (Or.inr rfl)))))) (k_cons (k_set (i := 4) nd rfl (by first | exact Or.inl rfl | exact Or.inr rfl) (s_var (i := 6) rfl (by first | exact Or.inl rfl | exact Or.inr (Or.inl rfl) | exact Or.inr (Or.inr rfl))))
 k_nil) (k_cons (k_set (i := 5) nd rfl (by first | exact Or.inl rfl | exact Or.inr rfl) (s_bin (opr_sub) (o_var (i := 6) rfl (by first | exact Or.inl rfl | exact Or.inr (Or.inl rfl) | exact Or.inr (Or.inr rfl))) (o_val s_int)))
 k_nil))
 k_nil))))
 (k_cons (k_ret (s_var (i := 4) rfl (by first | exact Or.inl rfl | exact Or.inr (Or.inl rfl) | exact Or.inr (Or.inr rfl))))
 k_nil))), h⟩
abbrev At_packed (K : PySem.W.Frag) (fd : FuncData) : Prop := FunD K "packed" "packed" (defArgs s_packed) (defBody s_packed) (defScope s_packed) [] [] (He.fAd K ("packed", none)) fd
theorem df_packed (S : Sx K mg) : ∃ fd, At_packed K fd := by
  obtain ⟨h, a, b, c⟩ := S.ex
  exact c.def_ 32 (d := d_packed) rfl
theorem sc_packed : FnScope ["sets", "price", "total", "found", "items", "times", "item", "value"] ["sets", "price"] (defScope s_packed) := ⟨rfl, rfl, rfl, by decide +kernel, rfl, by decide +kernel, by decide +kernel⟩
theorem kb_packed_48 {fd : FuncData} (F : At_packed K fd) : KBn K fd ["sets", "price"] 2 [] (ordL [0, 1]) (ordL [0, 1]) := kbn_ord 2 [0, 1] F (fun _ _ _ _ _ _ us ws h1 h2 => match us, ws, h1, h2 with | [_, _], [], _, _ => rfl)
theorem ok_packed (S : Sx K mg) {fd : FuncData} (F : At_packed K fd) : FnOk P w K mg base CX0 23 (He.fAd K ("packed", none)) fd ["sets", "price"] (spF (Tc K) 2 f_packed) := by
  obtain ⟨fd_hits, F_hits⟩ := df_hits S
  have G_hits := ok_hits (P := P) (w := w) (base := base) S F_hits
  obtain ⟨fd_times_of, F_times_of⟩ := df_times_of S
  have G_times_of := ok_times_of (P := P) (w := w) (base := base) S F_times_of
  refine F.ok sc_packed (fun vs H Q E h => h.1) (fun cdv A outer s H vs Q E room h => ?_)
  obtain ⟨Y, h⟩ := fn_start (N := ["sets", "price", "total", "found", "items", "times", "item", "value"]) (n := 2) (m := 6) rfl h
  have hu : (A.deeper (envOfC "packed" (defScope s_packed) s.heap.objs.size (He.fAd K ("packed", none)) cdv)).units + 64 < cLine := by have := room.un; omega
  have hu2 : (A.deeper (envOfC "packed" (defScope s_packed) s.heap.objs.size (He.fAd K ("packed", none)) cdv)).units + 130 < cLine := by have := room.un; omega
  have hu0 : (A.deeper (envOfC "packed" (defScope s_packed) s.heap.objs.size (He.fAd K ("packed", none)) cdv)).units < cLine := by omega
  have hu1 : (A.deeper (envOfC "packed" (defScope s_packed) s.heap.objs.size (He.fAd K ("packed", none)) cdv)).units + 1 < cLine := by omega
  have nd := sc_packed.nd
  exact ⟨_, (k_cons (k_par2 (i := 2) (j := 3) rfl nd rfl rfl (by decide) rfl rfl (p_val (s_ix rfl (o_val (s_cl (c_cl (n := 2) G_hits (room.mono (by decide)) rfl (n_hits S) F_hits.kp (kb_hits_45 F_hits) pa0 grel_ord (len_ord (by decide) rfl) (r_cons (s_var (i := 0) rfl (by first | exact Or.inl rfl | exact Or.inr (Or.inl rfl) | exact Or.inr (Or.inr rfl))) (r_cons (s_var (i := 1) rfl (by first | exact Or.inl rfl | exact Or.inr (Or.inl rfl) | exact Or.inr (Or.inr rfl))) r_nil)) kr_nil))) (o_val s_int)) (p_own (n_lst a_nil) (fun _ => p_nil))) rfl)
 (k_cons (k_for (passes_of rfl) rfl (i_seq rfl (s_var (i := 0) rfl (by first | exact Or.inl rfl | exact Or.inr (Or.inl rfl) | exact Or.inr (Or.inr rfl))) (fun _ h => pi_list h) (fun _ h => pi_tup h) (fun _ h => pi_str h)) (g_name (i := 4) nd rfl (by first | exact Or.inl rfl | exact Or.inr rfl) rfl) (k_cons (k_set (i := 5) nd rfl (by first | exact Or.inl rfl | exact Or.inr rfl) (s_ite (b_cmp (opr_gt) (o_var (i := 2) rfl (by first | exact Or.inl rfl | exact Or.inr (Or.inl rfl) | exact Or.inr (Or.inr rfl))) (o_val s_int)) (s_cl (c_cl (n := 4) G_times_of (room.mono (by decide)) rfl (n_times_of S) F_times_of.kp (kb_times_of_47 F_times_of) pa0 grel_ord (len_ord (by decide) rfl) (r_cons (s_var (i := 0) rfl (by first | exact Or.inl rfl | exact Or.inr (Or.inl rfl) | exact Or.inr (Or.inr rfl))) (r_cons (s_var (i := 1) rfl (by first | exact Or.inl rfl | exact Or.inr (Or.inl rfl) | exact Or.inr (Or.inr rfl))) (r_cons (s_var (i := 2) rfl (by first | exact Or.inl rfl | exact Or.inr (Or.inl rfl) | exact Or.inr (Or.inr rfl))) (r_cons (s_var (i := 4) rfl (by first | exact Or.inl rfl | exact Or.inr (Or.inl rfl) | exact Or.inr (Or.inr rfl))) r_nil)))) kr_nil)) s_int))
 (k_cons (k_if (b_cmp (opr_gt) (o_var (i := 5) rfl (by first | exact Or.inl rfl | exact Or.inr (Or.inl rfl) | exact Or.inr (Or.inr rfl))) (o_val s_int)) (k_cons (k_ex (s_app (i := 3) rfl (by first | exact Or.inl rfl | exact Or.inr (Or.inl rfl) | exact Or.inr (Or.inr rfl)) (s_tup (a_cons (s_var (i := 4) rfl (by first | exact Or.inl rfl | exact Or.inr (Or.inl rfl) | exact Or.inr (Or.inr rfl))) (a_cons (s_var (i := 5) rfl (by first | exact Or.inl rfl | exact Or.inr (Or.inl rfl) | exact Or.inr (Or.inr rfl))) a_nil))) (by decide) (by decide)))
 (k_cons (k_setDc [("item", 6), ("value", 7)] rfl nd (i := 1) rfl rfl (by rfl) (i_items (s_var (i := 1) rfl (by first | exact Or.inl rfl | exact Or.inr (Or.inl rfl) | exact Or.inr (Or.inr rfl)))) (blkOk_by (by kernel_rfl)) (by decide) (fun _ _ _ _ _ _ => (g_tup rfl rfl (gs_cons (g_name (i := 6) nd rfl (by first | exact Or.inl rfl | exact Or.inr rfl) rfl) (gs_cons (g_name (i := 7) nd rfl (by first | exact Or.inl rfl | exact Or.inr rfl) rfl) gs_nil)))) (fun _ _ _ _ _ _ => ts_nil) (fun _ _ _ _ _ _ => (s_var (i := 6) rfl (by first | exact Or.inl rfl | exact Or.inr (Or.inl rfl) | exact Or.inr (Or.inr rfl)))) (fun _ _ _ _ _ _ => (s_bin (opr_sub) (o_var (i := 7) rfl (by first | exact Or.inl rfl | exact Or.inr (Or.inl rfl) | exact Or.inr (Or.inr rfl))) (o_val (s_ite (b_cmp (opr_in rfl hu2) (o_var (i := 6) rfl (by first | exact Or.inl rfl | exact Or.inr (Or.inl rfl) | exact Or.inr (Or.inr rfl))) (o_var (i := 4) rfl (by first | exact Or.inl rfl | exact Or.inr (Or.inl rfl) | exact Or.inr (Or.inr rfl)))) (s_var (i := 5) rfl (by first | exact Or.inl rfl | exact Or.inr (Or.inl rfl) | exact Or.inr (Or.inr rfl))) s_int)))))
 (k_cons (k_set (i := 2) nd rfl (by first | exact Or.inl rfl | exact Or.inr rfl) (s_bin (opr_sub) (o_var (i := 2) rfl (by first | exact Or.inl rfl | exact Or.inr (Or.inl rfl) | exact Or.inr (Or.inr rfl))) (o_var (i := 5) rfl (by first | exact Or.inl rfl | exact Or.inr (Or.inl rfl) | exact Or.inr (Or.inr rfl)))))
 k_nil))) k_nil)
 k_nil)))
 (k_cons (k_ret (s_t1 (cr1_tuple rfl) rfl (n_tuple S) rfl (o_var (i := 3) rfl (by first | exact Or.inl rfl | exact Or.inr (Or.inl rfl) | exact Or.inr (Or.inr rfl)))))
 k_nil))), h⟩
abbrev At_paper (K : PySem.W.Frag) (fd : FuncData) : Prop := FunD K "paper" "paper" (defArgs s_paper) (defBody s_paper) (defScope s_paper) [] [] (He.fAd K ("paper", none)) fd
theorem df_paper (S : Sx K mg) : ∃ fd, At_paper K fd := by
  obtain ⟨h, a, b, c⟩ := S.ex
  exact c.def_ 45 (d := d_paper) rfl
theorem sc_paper : FnScope ["code"] ["code"] (defScope s_paper) := ⟨rfl, rfl, rfl, by decide +kernel, rfl, by decide +kernel, by decide +kernel⟩
theorem kb_paper_52 {fd : FuncData} (F : At_paper K fd) : KBn K fd ["code"] 0 ["code"] (ordL [0]) (ordL [0]) := kbn_ord 0 [0] F (fun _ _ _ _ _ _ us ws h1 h2 => match us, ws, h1, h2 with | [], [_], _, _ => rfl)
theorem ok_paper (S : Sx K mg) {fd : FuncData} (F : At_paper K fd) : FnOk P w K mg base CX0 25 (He.fAd K ("paper", none)) fd ["code"] (spF (Tc K) 1 f_paper) := by
  obtain ⟨fd_least_cut, F_least_cut⟩ := df_least_cut S
  have G_least_cut := ok_least_cut (P := P) (w := w) (base := base) S F_least_cut
  obtain ⟨fd_loops, F_loops⟩ := df_loops S
  have G_loops := ok_loops (P := P) (w := w) (base := base) S F_loops
  obtain ⟨fd_need_one_door, F_need_one_door⟩ := df_need_one_door S
  have G_need_one_door := ok_need_one_door (P := P) (w := w) (base := base) S F_need_one_door
  obtain ⟨fd_packed, F_packed⟩ := df_packed S
  have G_packed := ok_packed (P := P) (w := w) (base := base) S F_packed
  obtain ⟨fd_price_of, F_price_of⟩ := df_price_of S
  have G_price_of := ok_price_of (P := P) (w := w) (base := base) S F_price_of
  refine F.ok sc_paper (fun vs H Q E h => h.1) (fun cdv A outer s H vs Q E room h => ?_)
  obtain ⟨Y, h⟩ := fn_start (N := ["code"]) (n := 1) (m := 0) rfl h
  have hu : (A.deeper (envOfC "paper" (defScope s_paper) s.heap.objs.size (He.fAd K ("paper", none)) cdv)).units + 64 < cLine := by have := room.un; omega
  have hu2 : (A.deeper (envOfC "paper" (defScope s_paper) s.heap.objs.size (He.fAd K ("paper", none)) cdv)).units + 130 < cLine := by have := room.un; omega
  have hu0 : (A.deeper (envOfC "paper" (defScope s_paper) s.heap.objs.size (He.fAd K ("paper", none)) cdv)).units < cLine := by omega
  have hu1 : (A.deeper (envOfC "paper" (defScope s_paper) s.heap.objs.size (He.fAd K ("paper", none)) cdv)).units + 1 < cLine := by omega
  have nd := sc_paper.nd
  exact ⟨_, (k_cons (k_ex (s_cl (c_cl (n := 1) G_need_one_door (room.mono (by decide)) rfl (n_need_one_door S) F_need_one_door.kp (kb_need_one_door_50 F_need_one_door) pa0 grel_ord (len_ord (by decide) rfl) (r_cons (s_var (i := 0) rfl (by first | exact Or.inl rfl | exact Or.inr (Or.inl rfl) | exact Or.inr (Or.inr rfl))) r_nil) kr_nil)))
 (k_cons (k_ret (s_tup (a_cons (s_cl (c_cl (n := 1) G_least_cut (room.mono (by decide)) rfl (n_least_cut S) F_least_cut.kp (kb_least_cut_49 F_least_cut) pa0 grel_ord (len_ord (by decide) rfl) (r_cons (s_var (i := 0) rfl (by first | exact Or.inl rfl | exact Or.inr (Or.inl rfl) | exact Or.inr (Or.inr rfl))) r_nil) kr_nil)) (a_cons (s_cl (c_cl (n := 2) G_packed (room.mono (by decide)) rfl (n_packed S) F_packed.kp (kb_packed_48 F_packed) pa0 grel_ord (len_ord (by decide) rfl) (r_cons (s_cl (c_cl (n := 1) G_loops (room.mono (by decide)) rfl (n_loops S) F_loops.kp (kb_loops_29 F_loops) pa0 grel_ord (len_ord (by decide) rfl) (r_cons (s_var (i := 0) rfl (by first | exact Or.inl rfl | exact Or.inr (Or.inl rfl) | exact Or.inr (Or.inr rfl))) r_nil) kr_nil)) (r_cons (s_cl (c_cl (n := 1) G_price_of (room.mono (by decide)) rfl (n_price_of S) F_price_of.kp (kb_price_of_27 F_price_of) pa0 grel_ord (len_ord (by decide) rfl) (r_cons (s_var (i := 0) rfl (by first | exact Or.inl rfl | exact Or.inr (Or.inl rfl) | exact Or.inr (Or.inr rfl))) r_nil) kr_nil)) r_nil)) kr_nil)) a_nil))))
 k_nil)), h⟩
abbrev At__law_second_right (K : PySem.W.Frag) (fd : FuncData) : Prop := FunD K "_law_second_right" "_law_second_right" (defArgs s__law_second_right) (defBody s__law_second_right) (defScope s__law_second_right) [] [] (He.fAd K ("_law_second_right", none)) fd
theorem df__law_second_right (S : Sx K mg) : ∃ fd, At__law_second_right K fd := by
  obtain ⟨h, a, b, c⟩ := S.ex
  exact c.def_ 51 (d := d__law_second_right) rfl
theorem sc__law_second_right : FnScope ["a", "b", "view"] ["a", "b", "view"] (defScope s__law_second_right) := ⟨rfl, rfl, rfl, by decide +kernel, rfl, by decide +kernel, by decide +kernel⟩
theorem kb__law_second_right_64 {fd : FuncData} (F : At__law_second_right K fd) : KBn K fd ["a", "b", "view"] 3 [] (ordL [0, 1, 2]) (ordL [0, 1, 2]) := kbn_ord 3 [0, 1, 2] F (fun _ _ _ _ _ _ us ws h1 h2 => match us, ws, h1, h2 with | [_, _, _], [], _, _ => rfl)
theorem ok__law_second_right (S : Sx K mg) {fd : FuncData} (F : At__law_second_right K fd) : FnOk P w K mg base CX0 27 (He.fAd K ("_law_second_right", none)) fd ["a", "b", "view"] (spF (Tc K) 3 f__law_second_right) := by
  obtain ⟨fd_check, F_check⟩ := df_check S
  have G_check := ok_check (P := P) (w := w) (base := base) S F_check
  obtain ⟨fd_check_doors, F_check_doors⟩ := df_check_doors S
  have G_check_doors := ok_check_doors (P := P) (w := w) (base := base) S F_check_doors
  obtain ⟨fd_cost, F_cost⟩ := df_cost S
  have G_cost := ok_cost (P := P) (w := w) (base := base) S F_cost
  obtain ⟨fd_door_of, F_door_of⟩ := df_door_of S
  have G_door_of := ok_door_of (P := P) (w := w) (base := base) S F_door_of
  obtain ⟨fd_doors_paper, F_doors_paper⟩ := df_doors_paper S
  have G_doors_paper := ok_doors_paper (P := P) (w := w) (base := base) S F_doors_paper
  obtain ⟨fd_is_cut, F_is_cut⟩ := df_is_cut S
  have G_is_cut := ok_is_cut (P := P) (w := w) (base := base) S F_is_cut
  obtain ⟨fd_is_pack, F_is_pack⟩ := df_is_pack S
  have G_is_pack := ok_is_pack (P := P) (w := w) (base := base) S F_is_pack
  obtain ⟨fd_least_cost, F_least_cost⟩ := df_least_cost S
  have G_least_cost := ok_least_cost (P := P) (w := w) (base := base) S F_least_cost
  obtain ⟨fd_least_cut, F_least_cut⟩ := df_least_cut S
  have G_least_cut := ok_least_cut (P := P) (w := w) (base := base) S F_least_cut
  obtain ⟨fd_least_within, F_least_within⟩ := df_least_within S
  have G_least_within := ok_least_within (P := P) (w := w) (base := base) S F_least_within
  obtain ⟨fd_one_door, F_one_door⟩ := df_one_door S
  have G_one_door := ok_one_door (P := P) (w := w) (base := base) S F_one_door
  obtain ⟨fd_paper, F_paper⟩ := df_paper S
  have G_paper := ok_paper (P := P) (w := w) (base := base) S F_paper
  refine F.ok sc__law_second_right (fun vs H Q E h => h.1) (fun cdv A outer s H vs Q E room h => ?_)
  obtain ⟨Y, h⟩ := fn_start (N := ["a", "b", "view"]) (n := 3) (m := 0) rfl h
  have hu : (A.deeper (envOfC "_law_second_right" (defScope s__law_second_right) s.heap.objs.size (He.fAd K ("_law_second_right", none)) cdv)).units + 64 < cLine := by have := room.un; omega
  have hu2 : (A.deeper (envOfC "_law_second_right" (defScope s__law_second_right) s.heap.objs.size (He.fAd K ("_law_second_right", none)) cdv)).units + 130 < cLine := by have := room.un; omega
  have hu0 : (A.deeper (envOfC "_law_second_right" (defScope s__law_second_right) s.heap.objs.size (He.fAd K ("_law_second_right", none)) cdv)).units < cLine := by omega
  have hu1 : (A.deeper (envOfC "_law_second_right" (defScope s__law_second_right) s.heap.objs.size (He.fAd K ("_law_second_right", none)) cdv)).units + 1 < cLine := by omega
  have nd := sc__law_second_right.nd
  exact ⟨_, (k_cons (k_if (b_w (w_or (b_cmp (opr_isn) (o_val (s_cl (c_cl0 G_one_door (room.mono (by decide)) rfl (n_one_door S) F_one_door.kp (kb_one_door_61 F_one_door) pa0 grel_ord (len_ord (by decide) rfl) (kr_cons (s_var (i := 2) rfl (by first | exact Or.inl rfl | exact Or.inr (Or.inl rfl) | exact Or.inr (Or.inr rfl))) kr_nil)))) (o_val s_bl)) (w_or1 (b_cmp (opr_ne rfl hu) (o_val (s_cl (c_cl0 G_door_of (room.mono (by decide)) rfl (n_door_of S) F_door_of.kp (kb_door_of_62 F_door_of) pa0 grel_ord (len_ord (by decide) rfl) (kr_cons (s_tup (a_cons s_int (a_cons s_int a_nil))) (kr_cons (s_var (i := 2) rfl (by first | exact Or.inl rfl | exact Or.inr (Or.inl rfl) | exact Or.inr (Or.inr rfl))) kr_nil))))) (o_var (i := 0) rfl (by first | exact Or.inl rfl | exact Or.inr (Or.inl rfl) | exact Or.inr (Or.inr rfl))))))) (k_cons (k_ret s_bl)
 k_nil) k_nil)
 (k_cons (k_if (b_w (w_or (b_cmp (opr_ne rfl hu) (o_val (s_cl (c_cl0 G_check_doors (room.mono (by decide)) rfl (n_check_doors S) F_check_doors.kp (kb_check_doors_59 F_check_doors) pa0 grel_ord (len_ord (by decide) rfl) (kr_cons (s_cl (c_cl0 G_doors_paper (room.mono (by decide)) rfl (n_doors_paper S) F_doors_paper.kp (kb_doors_paper_58 F_doors_paper) pa0 grel_ord (len_ord (by decide) rfl) (kr_cons (s_var (i := 2) rfl (by first | exact Or.inl rfl | exact Or.inr (Or.inl rfl) | exact Or.inr (Or.inr rfl))) kr_nil))) (kr_cons (s_var (i := 2) rfl (by first | exact Or.inl rfl | exact Or.inr (Or.inl rfl) | exact Or.inr (Or.inr rfl))) kr_nil))))) (o_val s_str)) (w_or1 (b_cmp (opr_isn) (o_val (s_cl (c_cl0 G_is_cut (room.mono (by decide)) rfl (n_is_cut S) F_is_cut.kp (kb_is_cut_60 F_is_cut) pa0 grel_ord (len_ord (by decide) rfl) (kr_cons (s_tup (a_cons s_int a_nil)) (kr_cons (s_var (i := 2) rfl (by first | exact Or.inl rfl | exact Or.inr (Or.inl rfl) | exact Or.inr (Or.inr rfl))) kr_nil))))) (o_val s_bl))))) (k_cons (k_ret s_bl)
 k_nil) k_nil)
 (k_cons (k_if (b_w (w_or (b_cmp (opr_ne rfl hu) (o_val (s_cl (c_cl0 G_cost (room.mono (by decide)) rfl (n_cost S) F_cost.kp (kb_cost_55 F_cost) pa0 grel_ord (len_ord (by decide) rfl) (kr_cons (s_tup (a_cons s_int (a_cons s_int a_nil))) (kr_cons (s_var (i := 2) rfl (by first | exact Or.inl rfl | exact Or.inr (Or.inl rfl) | exact Or.inr (Or.inr rfl))) kr_nil))))) (o_val s_int)) (w_or (b_cmp (opr_ne rfl hu) (o_val (s_cl (c_cl0 G_least_cost (room.mono (by decide)) rfl (n_least_cost S) F_least_cost.kp (kb_least_cost_56 F_least_cost) pa0 grel_ord (len_ord (by decide) rfl) (kr_cons (s_var (i := 2) rfl (by first | exact Or.inl rfl | exact Or.inr (Or.inl rfl) | exact Or.inr (Or.inr rfl))) kr_nil)))) (o_val s_int)) (w_or1 (b_cmp (opr_ne rfl hu) (o_val (s_cl (c_cl0 G_least_cut (room.mono (by decide)) rfl (n_least_cut S) F_least_cut.kp (kb_least_cut_57 F_least_cut) pa0 grel_ord (len_ord (by decide) rfl) (kr_cons (s_var (i := 2) rfl (by first | exact Or.inl rfl | exact Or.inr (Or.inl rfl) | exact Or.inr (Or.inr rfl))) kr_nil)))) (o_val (s_tup (a_cons s_int a_nil)))))))) (k_cons (k_ret s_bl)
 k_nil) k_nil)
 (k_cons (k_if (b_w (w_or (b_cmp (opr_ne rfl hu) (o_val (s_cl (c_cl0 G_least_within (room.mono (by decide)) rfl (n_least_within S) F_least_within.kp (kb_least_within_53 F_least_within) pa0 grel_ord (len_ord (by decide) rfl) (kr_cons (s_tup (a_cons s_int a_nil)) (kr_cons (s_var (i := 2) rfl (by first | exact Or.inl rfl | exact Or.inr (Or.inl rfl) | exact Or.inr (Or.inr rfl))) kr_nil))))) (o_val (s_tup (a_cons s_int a_nil)))) (w_or1 (b_cmp (opr_isn) (o_val (s_cl (c_cl0 G_is_pack (room.mono (by decide)) rfl (n_is_pack S) F_is_pack.kp (kb_is_pack_54 F_is_pack) pa0 grel_ord (len_ord (by decide) rfl) (kr_cons (s_tup (a_cons (s_tup (a_cons (s_tup (a_cons s_int (a_cons s_int a_nil))) (a_cons s_int a_nil))) a_nil)) (kr_cons (s_var (i := 2) rfl (by first | exact Or.inl rfl | exact Or.inr (Or.inl rfl) | exact Or.inr (Or.inr rfl))) kr_nil))))) (o_val s_bl))))) (k_cons (k_ret s_bl)
 k_nil) k_nil)
 (k_cons (k_if (b_cmp (opr_ne rfl hu) (o_val (s_cl (c_cl0 G_paper (room.mono (by decide)) rfl (n_paper S) F_paper.kp (kb_paper_52 F_paper) pa0 grel_ord (len_ord (by decide) rfl) (kr_cons (s_var (i := 2) rfl (by first | exact Or.inl rfl | exact Or.inr (Or.inl rfl) | exact Or.inr (Or.inr rfl))) kr_nil)))) (o_val (s_tup (a_cons (s_tup (a_cons s_int a_nil)) (a_cons (s_tup (a_cons (s_tup (a_cons (s_tup (a_cons s_int (a_cons s_int a_nil))) (a_cons s_int a_nil))) a_nil)) a_nil))))) (k_cons (k_ret s_bl)
 k_nil) k_nil)
 (k_cons (k_ret (s_cmp (opr_eq rfl hu) (o_val (s_cl (c_cl0 G_check (room.mono (by decide)) rfl (n_check S) F_check.kp (kb_check_51 F_check) pa0 grel_ord (len_ord (by decide) rfl) (kr_cons (s_tup (a_cons (s_tup (a_cons (s_tup (a_cons s_int (a_cons s_int a_nil))) (a_cons s_int a_nil))) a_nil)) (kr_cons (s_tup (a_cons s_int a_nil)) (kr_cons (s_var (i := 2) rfl (by first | exact Or.inl rfl | exact Or.inr (Or.inl rfl) | exact Or.inr (Or.inr rfl))) kr_nil)))))) (o_val s_int)))
 k_nil)))))), h⟩
abbrev At_law (K : PySem.W.Frag) (fd : FuncData) : Prop := FunD K "law" "law" (defArgs s_law) (defBody s_law) (defScope s_law) [] [] (He.fAd K ("law", none)) fd
theorem df_law (S : Sx K mg) : ∃ fd, At_law K fd := by
  obtain ⟨h, a, b, c⟩ := S.ex
  exact c.def_ 52 (d := d_law) rfl
theorem sc_law : FnScope ["script", "m", "turn", "a", "b", "view"] ["script"] (defScope s_law) := ⟨rfl, rfl, rfl, by decide +kernel, rfl, by decide +kernel, by decide +kernel⟩
theorem ok_law (S : Sx K mg) {fd : FuncData} (F : At_law K fd) : FnOk P w K mg base CX0 29 (He.fAd K ("law", none)) fd ["script"] (spF (Tc K) 1 f_law) := by
  obtain ⟨fd_Code___init__, F_Code___init__⟩ := df_Code___init__ S
  have G_Code___init__ := ok_Code___init__ (P := P) (w := w) (base := base) S F_Code___init__
  obtain ⟨fd__law_begun, F__law_begun⟩ := df__law_begun S
  have G__law_begun := ok__law_begun (P := P) (w := w) (base := base) S F__law_begun
  obtain ⟨fd__law_first_right, F__law_first_right⟩ := df__law_first_right S
  have G__law_first_right := ok__law_first_right (P := P) (w := w) (base := base) S F__law_first_right
  obtain ⟨fd__law_names, F__law_names⟩ := df__law_names S
  have G__law_names := ok__law_names (P := P) (w := w) (base := base) S F__law_names
  obtain ⟨fd__law_second_right, F__law_second_right⟩ := df__law_second_right S
  have G__law_second_right := ok__law_second_right (P := P) (w := w) (base := base) S F__law_second_right
  refine F.ok sc_law (fun vs H Q E h => h.1) (fun cdv A outer s H vs Q E room h => ?_)
  obtain ⟨Y, h⟩ := fn_start (N := ["script", "m", "turn", "a", "b", "view"]) (n := 1) (m := 5) rfl h
  have hu : (A.deeper (envOfC "law" (defScope s_law) s.heap.objs.size (He.fAd K ("law", none)) cdv)).units + 64 < cLine := by have := room.un; omega
  have hu2 : (A.deeper (envOfC "law" (defScope s_law) s.heap.objs.size (He.fAd K ("law", none)) cdv)).units + 130 < cLine := by have := room.un; omega
  have hu0 : (A.deeper (envOfC "law" (defScope s_law) s.heap.objs.size (He.fAd K ("law", none)) cdv)).units < cLine := by omega
  have hu1 : (A.deeper (envOfC "law" (defScope s_law) s.heap.objs.size (He.fAd K ("law", none)) cdv)).units + 1 < cLine := by omega
  have nd := sc_law.nd
  exact ⟨_, (k_cons (k_own (i := 1) nd rfl (by first | exact Or.inl rfl | exact Or.inr rfl) (n_cl (c_cl (n := 1) G__law_begun (room.mono (by decide)) rfl (n__law_begun S) F__law_begun.kp (kb__law_begun_66 F__law_begun) pa0 grel_ord (len_ord (by decide) rfl) (r_cons (s_var (i := 0) rfl (by first | exact Or.inl rfl | exact Or.inr (Or.inl rfl) | exact Or.inr (Or.inr rfl))) r_nil) kr_nil)))
 (k_cons (k_for (passes_of rfl) rfl (i_r1 rfl (n_range S) (s_bin (opr_add rfl) (o_val s_int) (o_val (s_b2 (cr2_min rfl) rfl (n_min S) rfl (o_val (s_b1 (cr1_len rfl) rfl (n_len S) rfl (o_var (i := 0) rfl (by first | exact Or.inl rfl | exact Or.inr (Or.inl rfl) | exact Or.inr (Or.inr rfl))))) (o_val s_int))))) (g_name (i := 2) nd rfl (by first | exact Or.inl rfl | exact Or.inr rfl) rfl) (k_cons (k_asg (s_b1 (cr1_sorted rfl rfl hu) rfl (n_sorted S) rfl (o_val (s_cl (c_cl (n := 2) G__law_names (room.mono (by decide)) rfl (n__law_names S) F__law_names.kp (kb__law_names_65 F__law_names) pa0 grel_ord (len_ord (by decide) rfl) (r_own (i := 1) rfl (by first | exact Or.inl rfl | exact Or.inr (Or.inl rfl) | exact Or.inr (Or.inr rfl)) (r_cons s_int r_nil)) kr_nil)))) (g_lst rfl rfl (gs_cons (g_name (i := 3) nd rfl (by first | exact Or.inl rfl | exact Or.inr rfl) rfl) (gs_cons (g_name (i := 4) nd rfl (by first | exact Or.inl rfl | exact Or.inr rfl) rfl) gs_nil))))
 (k_cons (k_set (i := 5) nd rfl (by first | exact Or.inl rfl | exact Or.inr rfl) (s_new (n_mk (T := Tc K) (c := 0) (n := 3) (mk_Code S) G_Code___init__ (room.mono (by decide)) rfl (n_Code S) (kb_Code___init___9 F_Code___init__) pa0 grel_ord (len_ord (by decide) rfl) (r_cons (s_tup (a_cons (s_var (i := 3) rfl (by first | exact Or.inl rfl | exact Or.inr (Or.inl rfl) | exact Or.inr (Or.inr rfl))) (a_cons (s_var (i := 4) rfl (by first | exact Or.inl rfl | exact Or.inr (Or.inl rfl) | exact Or.inr (Or.inr rfl))) a_nil))) (r_cons (s_var (i := 3) rfl (by first | exact Or.inl rfl | exact Or.inr (Or.inl rfl) | exact Or.inr (Or.inr rfl))) (r_cons (s_lst (a_cons (s_tup (a_cons (s_var (i := 3) rfl (by first | exact Or.inl rfl | exact Or.inr (Or.inl rfl) | exact Or.inr (Or.inr rfl))) (a_cons (s_var (i := 4) rfl (by first | exact Or.inl rfl | exact Or.inr (Or.inl rfl) | exact Or.inr (Or.inr rfl))) (a_cons s_int a_nil)))) (a_cons (s_tup (a_cons (s_var (i := 4) rfl (by first | exact Or.inl rfl | exact Or.inr (Or.inl rfl) | exact Or.inr (Or.inr rfl))) (a_cons (s_var (i := 3) rfl (by first | exact Or.inl rfl | exact Or.inr (Or.inl rfl) | exact Or.inr (Or.inr rfl))) (a_cons s_int a_nil)))) a_nil))) r_nil))) kr_nil)))
 (k_cons (k_if (b_w (w_or (b_not (b_of (s_cl (c_cl (n := 3) G__law_first_right (room.mono (by decide)) rfl (n__law_first_right S) F__law_first_right.kp (kb__law_first_right_63 F__law_first_right) pa0 grel_ord (len_ord (by decide) rfl) (r_cons (s_var (i := 3) rfl (by first | exact Or.inl rfl | exact Or.inr (Or.inl rfl) | exact Or.inr (Or.inr rfl))) (r_cons (s_var (i := 4) rfl (by first | exact Or.inl rfl | exact Or.inr (Or.inl rfl) | exact Or.inr (Or.inr rfl))) (r_cons (s_var (i := 5) rfl (by first | exact Or.inl rfl | exact Or.inr (Or.inl rfl) | exact Or.inr (Or.inr rfl))) r_nil))) kr_nil)))) (w_or1 (b_not (b_of (s_cl (c_cl (n := 3) G__law_second_right (room.mono (by decide)) rfl (n__law_second_right S) F__law_second_right.kp (kb__law_second_right_64 F__law_second_right) pa0 grel_ord (len_ord (by decide) rfl) (r_cons (s_var (i := 3) rfl (by first | exact Or.inl rfl | exact Or.inr (Or.inl rfl) | exact Or.inr (Or.inr rfl))) (r_cons (s_var (i := 4) rfl (by first | exact Or.inl rfl | exact Or.inr (Or.inl rfl) | exact Or.inr (Or.inr rfl))) (r_cons (s_var (i := 5) rfl (by first | exact Or.inl rfl | exact Or.inr (Or.inl rfl) | exact Or.inr (Or.inr rfl))) r_nil))) kr_nil))))))) (k_cons (k_ret s_bl)
 k_nil) k_nil)
 k_nil))))
 (k_cons (k_ret s_bl)
 k_nil))), h⟩
end
end Wk
namespace Pu
open PySem L2 Lc
section
variable {α β γ : Type} {a : α} {x : Xc} {ρ ρ' : List Sl} {s : Sl} {i n m : Nat} {t u : ES} {e e2 : EE} {o o2 o3 : EO} {c c2 : EB} {pn : Nat → Bool} {d : D}
def SRes.go (r : SRes) (u : ES) : SRes := match r with
  | .nx ρ' => u ρ'
  | r => r
def SRes.fin (pn : Nat → Bool) (n : Nat) : SRes → Res Sl
  | .nx ρ => .ok (.fz .non) (maskE pn n ρ)
  | .rt s ρ => .ok s (maskE pn n ρ)
  | .ex x ρ => .ex x (maskE pn n ρ)
  | _ => .no
@[simp] theorem b_ok {f : α → List Sl → Res β} : (Res.ok a ρ).bind f = f a ρ := rfl
@[simp] theorem b_ex {f : α → List Sl → Res β} : (Res.ex x ρ : Res α).bind f = .ex x ρ := rfl
@[simp] theorem b_no {f : α → List Sl → Res β} : (Res.no : Res α).bind f = .no := rfl
@[simp] theorem t_ok {f : α → List Sl → SRes} : (Res.ok a ρ).thenS f = f a ρ := rfl
@[simp] theorem t_ex {f : α → List Sl → SRes} : (Res.ex x ρ : Res α).thenS f = .ex x ρ := rfl
@[simp] theorem t_no {f : α → List Sl → SRes} : (Res.no : Res α).thenS f = .no := rfl
@[simp] theorem of_some : Res.of (some a) ρ = .ok a ρ := rfl
@[simp] theorem of_none : (Res.of none ρ : Res α) = .no := rfl
@[simp] theorem go_nx : SRes.go (.nx ρ) u = u ρ := rfl
@[simp] theorem go_rt : SRes.go (.rt s ρ) u = .rt s ρ := rfl
@[simp] theorem go_bk : SRes.go (.bk ρ) u = .bk ρ := rfl
@[simp] theorem go_ct : SRes.go (.ct ρ) u = .ct ρ := rfl
@[simp] theorem go_no : SRes.go .no u = .no := rfl
@[simp] theorem fin_nx : SRes.fin pn n (.nx ρ) = .ok (.fz .non) (maskE pn n ρ) := rfl
@[simp] theorem fin_rt : SRes.fin pn n (.rt s ρ) = .ok s (maskE pn n ρ) := rfl
@[simp] theorem fin_no : SRes.fin pn n .no = .no := rfl
@[simp] theorem v_fn {b : ES} : fnE pn n m b ρ = if ρ.length = n then SRes.fin pn n (b (ρ ++ List.replicate m .no)) else .no := by
  unfold fnE
  split
  · cases b (ρ ++ List.replicate m Sl.no) <;> rfl
  · rfl
/- statements -/
@[simp] theorem v_seq : sSeq t u ρ = SRes.go (t ρ) u := by unfold sSeq; cases t ρ <;> rfl
@[simp] theorem v_nil : sNil ρ = .nx ρ := rfl
@[simp] theorem v_pass : sPass ρ = .nx ρ := rfl
@[simp] theorem v_brk : sBrk ρ = .bk ρ := rfl
@[simp] theorem v_cnt : sCnt ρ = .ct ρ := rfl
@[simp] theorem v_sno : sNo ρ = .no := rfl
def kSet (pn : Nat → Bool) (i : Nat) (d : D) (ρ : List Sl) : SRes := if pn i then .no else .nx (ρ.set i (.fz d))
@[simp] theorem v_set : sSet pn i e ρ = (e ρ).thenS (kSet pn i) := rfl
@[simp] theorem kSet_ : kSet pn i d ρ = if pn i then .no else .nx (ρ.set i (.fz d)) := rfl
def kOwn (pn : Nat → Bool) (i : Nat) (d : D) (ρ : List Sl) : SRes := if pn i then .no else .nx (ρ.set i (.ow d))
@[simp] theorem v_own : sOwn pn i e ρ = (e ρ).thenS (kOwn pn i) := rfl
@[simp] theorem kOwn_ : kOwn pn i d ρ = if pn i then .no else .nx (ρ.set i (.ow d)) := rfl
def kRet (d : D) (ρ : List Sl) : SRes := .rt (.fz d) ρ
@[simp] theorem v_ret : sRet e ρ = (e ρ).thenS kRet := rfl
@[simp] theorem kRet_ : kRet d ρ = .rt (.fz d) ρ := rfl
def kRetF (d : D) (ρ : List Sl) : SRes := .rt (.ow d) ρ
@[simp] theorem v_retF : sRetF e ρ = (e ρ).thenS kRetF := rfl
@[simp] theorem kRetF_ : kRetF d ρ = .rt (.ow d) ρ := rfl
@[simp] theorem v_retN : sRetN ρ = .rt (.fz .non) ρ := rfl
def kRetO (i : Nat) (ρ : List Sl) : Sl → SRes
  | .ow d => .rt (.ow d) (ρ.set i .no)
  | _ => .no
@[simp] theorem v_retO : sRetO i ρ = kRetO i ρ (ρ.getD i .no) := rfl
@[simp] theorem kRetO_ : kRetO i ρ (.ow d) = .rt (.ow d) (ρ.set i .no) := rfl
def kIf (t u : ES) (b : Bool) (ρ : List Sl) : SRes := if b then t ρ else u ρ
@[simp] theorem v_if : sIf c t u ρ = (c ρ).thenS (kIf t u) := rfl
@[simp] theorem kIf_t : kIf t u true ρ = t ρ := rfl
@[simp] theorem kIf_f : kIf t u false ρ = u ρ := rfl
def kEx (_ : D) (ρ : List Sl) : SRes := .nx ρ
@[simp] theorem v_ex : sEx e ρ = (e ρ).thenS kEx := rfl
@[simp] theorem kEx_ : kEx d ρ = .nx ρ := rfl
/- expressions -/
def kVar (i : Nat) (ρ : List Sl) : Sl → Res D
  | .fz d => .ok d ρ
  | .ow d => if d.isOm then .no else .ok d (ρ.set i (.fz d))
  | .no => .no
@[simp] theorem v_var : eVar i ρ = kVar i ρ (ρ.getD i .no) := rfl
@[simp] theorem kVar_f : kVar i ρ (.fz d) = .ok d ρ := rfl
@[simp] theorem kVar_o : kVar i ρ (.ow d) = if d.isOm then .no else .ok d (ρ.set i (.fz d)) := rfl
@[simp] theorem v_c : eC d ρ = .ok d ρ := rfl
def kOVar (i : Nat) (ρ : List Sl) : Sl → Res Od
  | .no => .no
  | _ => .ok (.s i) ρ
@[simp] theorem v_oVar : oVar i ρ = kOVar i ρ (ρ.getD i .no) := rfl
@[simp] theorem kOVar_f : kOVar i ρ (.fz d) = .ok (.s i) ρ := rfl
@[simp] theorem kOVar_o : kOVar i ρ (.ow d) = .ok (.s i) ρ := rfl
def kOV (d : D) (ρ : List Sl) : Res Od := .ok (.v d) ρ
@[simp] theorem v_oV : oV e ρ = (e ρ).bind kOV := rfl
@[simp] theorem kOV_ : kOV d ρ = .ok (.v d) ρ := rfl
@[simp] theorem odv : (Od.v d).get ρ = some d := rfl
@[simp] theorem ods : (Od.s i).get ρ = (ρ.getD i .no).d? := rfl
@[simp] theorem d_f : (Sl.fz d).d? = some d := rfl
@[simp] theorem d_o : (Sl.ow d).d? = some d := rfl
def kOp2 (f : D → D → Option D) (o2 : EO) (a : Od) (ρ : List Sl) : Res D := (o2 ρ).bind fun b ρ => Res.of ((a.get ρ).bind fun x => (b.get ρ).bind fun y => f x y) ρ
def op2V (f : D → D → Option D) : Option D → Option D → Option D
  | some x, some y => f x y
  | _, _ => none
@[simp] theorem op2V_ {f : D → D → Option D} {x y : D} : op2V f (some x) (some y) = f x y := rfl
def kOp2b (f : D → D → Option D) (a b : Od) (ρ : List Sl) : Res D := Res.of (op2V f (a.get ρ) (b.get ρ)) ρ
@[simp] theorem v_op2 {f : D → D → Option D} : eOp2 f o o2 ρ = (o ρ).bind (kOp2 f o2) := rfl
@[simp] theorem kOp2_ {f : D → D → Option D} {a : Od} : kOp2 f o2 a ρ = (o2 ρ).bind (kOp2b f a) := by
  unfold kOp2
  congr 1
  funext b ρ
  unfold kOp2b op2V
  cases a.get ρ <;> cases b.get ρ <;> rfl
@[simp] theorem kOp2b_ {f : D → D → Option D} {a b : Od} : kOp2b f a b ρ = Res.of (op2V f (a.get ρ) (b.get ρ)) ρ := rfl
@[simp] theorem v_b2 {f : D → D → Option D} : eB2 f o o2 ρ = (o ρ).bind (kOp2 f o2) := rfl
def kOp1 (f : D → Option D) (a : Od) (ρ : List Sl) : Res D := Res.of ((a.get ρ).bind f) ρ
@[simp] theorem v_op1 {f : D → Option D} : eOp1 f o ρ = (o ρ).bind (kOp1 f) := rfl
@[simp] theorem kOp1_ {f : D → Option D} {a : Od} : kOp1 f a ρ = Res.of ((a.get ρ).bind f) ρ := rfl
@[simp] theorem v_fld {c : Nat} {f : Str} : eFldC c f o ρ = (o ρ).bind (kOp1 (D.fldC c f)) := rfl
@[simp] theorem v_isi {cs : List Tg} : eIsi n cs o ρ = (o ρ).bind (kOp1 (isiD n cs)) := rfl
def kBV (d : D) (ρ : List Sl) : Res Bool := match d with
  | .bl b => .ok b ρ
  | _ => .no
@[simp] theorem v_bV : bV e ρ = (e ρ).bind kBV := rfl
@[simp] theorem kBV_ {b : Bool} : kBV (.bl b) ρ = .ok b ρ := rfl
def kBAnd (c2 : EB) (b : Bool) (ρ : List Sl) : Res Bool := if b then c2 ρ else .ok false ρ
@[simp] theorem v_bAnd : bAnd c c2 ρ = (c ρ).bind (kBAnd c2) := rfl
@[simp] theorem kBAnd_t : kBAnd c true ρ = c ρ := rfl
@[simp] theorem kBAnd_f : kBAnd c false ρ = .ok false ρ := rfl
def kBOr (c2 : EB) (b : Bool) (ρ : List Sl) : Res Bool := if b then .ok true ρ else c2 ρ
@[simp] theorem v_bOr : bOr c c2 ρ = (c ρ).bind (kBOr c2) := rfl
@[simp] theorem kBOr_t : kBOr c true ρ = .ok true ρ := rfl
@[simp] theorem kBOr_f : kBOr c false ρ = c ρ := rfl
def kBNot (b : Bool) (ρ : List Sl) : Res Bool := .ok (!b) ρ
@[simp] theorem v_bNot : bNot c ρ = (c ρ).bind kBNot := rfl
@[simp] theorem kBNot_ {b : Bool} : kBNot b ρ = .ok (!b) ρ := rfl
@[simp] theorem v_bYes : bYes ρ = .ok true ρ := rfl
def kAnd (e2 : EE) (d : D) (ρ : List Sl) : Res D := match d with
  | .bl true => e2 ρ
  | .bl false => .ok (.bl false) ρ
  | _ => .no
@[simp] theorem v_and : eAnd e e2 ρ = (e ρ).bind (kAnd e2) := rfl
@[simp] theorem kAnd_t : kAnd e2 (.bl true) ρ = e2 ρ := rfl
@[simp] theorem kAnd_f : kAnd e2 (.bl false) ρ = .ok (.bl false) ρ := rfl
def kOr (e2 : EE) (d : D) (ρ : List Sl) : Res D := match d with
  | .bl true => .ok (.bl true) ρ
  | .bl false => e2 ρ
  | _ => .no
@[simp] theorem v_or : eOr e e2 ρ = (e ρ).bind (kOr e2) := rfl
@[simp] theorem kOr_t : kOr e2 (.bl true) ρ = .ok (.bl true) ρ := rfl
@[simp] theorem kOr_f : kOr e2 (.bl false) ρ = e2 ρ := rfl
def kNot (d : D) (ρ : List Sl) : Res D := match d with
  | .bl b => .ok (.bl (!b)) ρ
  | _ => .no
@[simp] theorem v_not : eNot e ρ = (e ρ).bind kNot := rfl
@[simp] theorem kNot_ {b : Bool} : kNot (.bl b) ρ = .ok (.bl (!b)) ρ := rfl
def kEIf (a b : EE) (x : Bool) (ρ : List Sl) : Res D := if x then a ρ else b ρ
@[simp] theorem v_eif : eIf c e e2 ρ = (c ρ).bind (kEIf e e2) := rfl
@[simp] theorem kEIf_t : kEIf e e2 true ρ = e ρ := rfl
@[simp] theorem kEIf_f : kEIf e e2 false ρ = e2 ρ := rfl
def kChn2 (f2 : D → D → Option D) (tc : EO) (b : Od) (ρ : List Sl) : Option D → Res D
  | some (.bl true) => (tc ρ).bind (kOp2b f2 b)
  | some (.bl false) => .ok (.bl false) ρ
  | _ => .no
def kChnb (f f2 : D → D → Option D) (tc : EO) (a b : Od) (ρ : List Sl) : Res D := kChn2 f2 tc b ρ (op2V f (a.get ρ) (b.get ρ))
def kChn (f f2 : D → D → Option D) (tb tc : EO) (a : Od) (ρ : List Sl) : Res D := (tb ρ).bind (kChnb f f2 tc a)
@[simp] theorem v_chn {f f2 : D → D → Option D} : eChn f f2 o o2 o3 ρ = (o ρ).bind (kChn f f2 o2 o3) := by
  unfold eChn
  congr 1
  funext a ρ
  unfold kChn
  congr 1
  funext b ρ
  unfold kChnb
  have e : ((a.get ρ).bind fun x => (b.get ρ).bind fun y => f x y) = op2V f (a.get ρ) (b.get ρ) := by cases a.get ρ <;> cases b.get ρ <;> rfl
  rw [e]
  cases op2V f (a.get ρ) (b.get ρ) with
  | none => rfl
  | some d => 
    cases d with
    | bl v => 
      cases v
      · rfl
      · show (o3 ρ).bind _ = (o3 ρ).bind _
        congr 1
        funext c ρ
        unfold kOp2b op2V
        cases b.get ρ <;> cases c.get ρ <;> rfl
    | _ => rfl
@[simp] theorem kChn_ {f f2 : D → D → Option D} {a : Od} : kChn f f2 o2 o3 a ρ = (o2 ρ).bind (kChnb f f2 o3 a) := rfl
@[simp] theorem kChnb_ {f f2 : D → D → Option D} {a b : Od} : kChnb f f2 o3 a b ρ = kChn2 f2 o3 b ρ (op2V f (a.get ρ) (b.get ρ)) := rfl
@[simp] theorem kChn2_t {f2 : D → D → Option D} {b : Od} : kChn2 f2 o3 b ρ (some (.bl true)) = (o3 ρ).bind (kOp2b f2 b) := rfl
@[simp] theorem kChn2_f {f2 : D → D → Option D} {b : Od} : kChn2 f2 o3 b ρ (some (.bl false)) = .ok (.bl false) ρ := rfl
/- tuples, lists -/
@[simp] theorem v_aNil : aNil ρ = .ok [] ρ := rfl
def kACons2 (d : D) (xs : List D) (ρ : List Sl) : Res (List D) := .ok (d :: xs) ρ
def kACons (r : EA) (d : D) (ρ : List Sl) : Res (List D) := (r ρ).bind (kACons2 d)
@[simp] theorem v_aCons {r : EA} : aCons e r ρ = (e ρ).bind (kACons r) := rfl
@[simp] theorem kACons_ {r : EA} : kACons r d ρ = (r ρ).bind (kACons2 d) := rfl
@[simp] theorem kACons2_ {xs : List D} : kACons2 d xs ρ = .ok (d :: xs) ρ := rfl
def kAStar2 (ys xs : List D) (ρ : List Sl) : Res (List D) := .ok (ys ++ xs) ρ
def kAStar3 (r : EA) (ρ : List Sl) : Option (List D) → Res (List D)
  | some ys => (r ρ).bind (kAStar2 ys)
  | none => .no
def kAStar (r : EA) (o : Od) (ρ : List Sl) : Res (List D) := kAStar3 r ρ ((o.get ρ).bind D.seq?)
@[simp] theorem v_aStar {r : EA} : aStar o r ρ = (o ρ).bind (kAStar r) := by
  unfold aStar
  congr 1
@[simp] theorem kAStar_ {r : EA} {a : Od} : kAStar r a ρ = kAStar3 r ρ ((a.get ρ).bind D.seq?) := rfl
@[simp] theorem kAStar3_ {r : EA} {ys : List D} : kAStar3 r ρ (some ys) = (r ρ).bind (kAStar2 ys) := rfl
@[simp] theorem kAStar2_ {ys xs : List D} : kAStar2 ys xs ρ = .ok (ys ++ xs) ρ := rfl
def kTup (xs : List D) (ρ : List Sl) : Res D := if xs.length ≤ LIM then .ok (.tup xs) ρ else .no
@[simp] theorem v_tup {r : EA} : eTup r ρ = (r ρ).bind kTup := rfl
@[simp] theorem kTup_ {xs : List D} : kTup xs ρ = if xs.length ≤ LIM then .ok (.tup xs) ρ else .no := rfl
def kLst (xs : List D) (ρ : List Sl) : Res D := if xs.length ≤ LIM then .ok (.lst xs) ρ else .no
@[simp] theorem v_lst {r : EA} : eLst r ρ = (r ρ).bind kLst := rfl
@[simp] theorem kLst_ {xs : List D} : kLst xs ρ = if xs.length ≤ LIM then .ok (.lst xs) ρ else .no := rfl
def kNoOm (d : D) (ρ : List Sl) : Res D := if d.isOm then .no else .ok d ρ
@[simp] theorem v_noOm : D.noOm e ρ = (e ρ).bind kNoOm := rfl
@[simp] theorem kNoOm_ : kNoOm d ρ = if d.isOm then .no else .ok d ρ := rfl
/- slices -/
@[simp] theorem v_lNo : lNo ρ = .ok none ρ := rfl
def kLSo (d : D) (ρ : List Sl) : Res (Option Int) := match d with
  | .int i => .ok (some i) ρ
  | _ => .no
@[simp] theorem v_lSo : lSo e ρ = (e ρ).bind kLSo := rfl
@[simp] theorem kLSo_ {i : Int} : kLSo (.int i) ρ = .ok (some i) ρ := rfl
def kSl3 (o : Od) (l h : Option Int) (ρ : List Sl) : Res D := Res.of ((o.get ρ).bind fun d => d.slD l h) ρ
def kSl2 (hi : EL) (o : Od) (l : Option Int) (ρ : List Sl) : Res D := (hi ρ).bind (kSl3 o l)
def kSl1 (lo hi : EL) (o : Od) (ρ : List Sl) : Res D := (lo ρ).bind (kSl2 hi o)
@[simp] theorem v_sl {lo hi : EL} : eSl o lo hi ρ = (o ρ).bind (kSl1 lo hi) := rfl
@[simp] theorem kSl1_ {lo hi : EL} {a : Od} : kSl1 lo hi a ρ = (lo ρ).bind (kSl2 hi a) := rfl
@[simp] theorem kSl2_ {hi : EL} {a : Od} {l : Option Int} : kSl2 hi a l ρ = (hi ρ).bind (kSl3 a l) := rfl
@[simp] theorem kSl3_ {a : Od} {l h : Option Int} : kSl3 a l h ρ = Res.of ((a.get ρ).bind fun d => d.slD l h) ρ := rfl
/- calls -/
@[simp] theorem v_rNil : rNil ρ = .ok [] ρ := rfl
def kRCons2 (d : D) (xs : List Ar) (ρ : List Sl) : Res (List Ar) := .ok (.v d :: xs) ρ
def kRCons (r : EAr) (d : D) (ρ : List Sl) : Res (List Ar) := (r ρ).bind (kRCons2 d)
@[simp] theorem v_rCons {r : EAr} : rCons e r ρ = (e ρ).bind (kRCons r) := rfl
@[simp] theorem kRCons_ {r : EAr} : kRCons r d ρ = (r ρ).bind (kRCons2 d) := rfl
@[simp] theorem kRCons2_ {xs : List Ar} : kRCons2 d xs ρ = .ok (.v d :: xs) ρ := rfl
def kROwn2 (i : Nat) (xs : List Ar) (ρ : List Sl) : Res (List Ar) := .ok (.s i :: xs) ρ
def kROwn (i : Nat) (r : EAr) (ρ : List Sl) : Sl → Res (List Ar)
  | .ow _ => (r ρ).bind (kROwn2 i)
  | _ => .no
@[simp] theorem v_rOwn {r : EAr} : rOwn i r ρ = kROwn i r ρ (ρ.getD i .no) := by unfold rOwn kROwn; cases ρ.getD i .no <;> rfl
@[simp] theorem kROwn_ {r : EAr} : kROwn i r ρ (.ow d) = (r ρ).bind (kROwn2 i) := rfl
@[simp] theorem kROwn2_ {xs : List Ar} : kROwn2 i xs ρ = .ok (.s i :: xs) ρ := rfl
def kCall2 (as : List Ar) (ρ : List Sl) : Res Sl → Res Sl
  | .ok r as' => .ok r (backA as as' ρ)
  | .ex x as' => .ex x (backA as as' ρ)
  | .no => .no
@[simp] theorem v_call {f : Fn} {as : List Ar} : callF f as ρ = if okAs ρ as then kCall2 as ρ (f (asOf ρ as)) else .no := by
  unfold callF kCall2
  split
  · cases f (asOf ρ as) <;> rfl
  · rfl
@[simp] theorem kCall2_ {as : List Ar} {as' : List Sl} : kCall2 as ρ (.ok s as') = .ok s (backA as as' ρ) := rfl
@[simp] theorem kCall2_n {as : List Ar} : kCall2 as ρ .no = .no := rfl
def kCl2 (f : Fn) (n m : Nat) (gA : List Ar → List Ar → List Ar) (as bs : List Ar) (ρ : List Sl) : Res Sl := if as.length = n ∧ bs.length = m then callF f (gA as bs) ρ else .no
def kCl (f : Fn) (n m : Nat) (gA : List Ar → List Ar → List Ar) (tk : EAr) (as : List Ar) (ρ : List Sl) : Res Sl := (tk ρ).bind (kCl2 f n m gA as)
@[simp] theorem v_cl {f : Fn} {gA : List Ar → List Ar → List Ar} {t tk : EAr} : eCl f n m gA t tk ρ = (t ρ).bind (kCl f n m gA tk) := rfl
@[simp] theorem kCl_ {f : Fn} {gA : List Ar → List Ar → List Ar} {tk : EAr} {as : List Ar} : kCl f n m gA tk as ρ = (tk ρ).bind (kCl2 f n m gA as) := rfl
@[simp] theorem kCl2_ {f : Fn} {gA : List Ar → List Ar → List Ar} {as bs : List Ar} : kCl2 f n m gA as bs ρ = if as.length = n ∧ bs.length = m then callF f (gA as bs) ρ else .no := rfl
def kFz (s : Sl) (ρ : List Sl) : Res D := match s with
  | .fz d => .ok d ρ
  | .ow d => if d.isOm then .no else .ok d ρ
  | .no => .no
@[simp] theorem v_fz {t : ECl} : eFz t ρ = (t ρ).bind kFz := rfl
@[simp] theorem kFz_f : kFz (.fz d) ρ = .ok d ρ := rfl
@[simp] theorem kFz_o : kFz (.ow d) ρ = if d.isOm then .no else .ok d ρ := rfl
def kOw (s : Sl) (ρ : List Sl) : Res D := match s with
  | .ow d => .ok d ρ
  | _ => .no
@[simp] theorem v_ow {t : ECl} : eOw t ρ = (t ρ).bind kOw := rfl
@[simp] theorem kOw_o : kOw (.ow d) ρ = .ok d ρ := rfl
def kA1V (d : D) (ρ : List Sl) : Res Ar := .ok (.v d) ρ
@[simp] theorem v_a1V : a1V e ρ = (e ρ).bind kA1V := rfl
@[simp] theorem kA1V_ : kA1V d ρ = .ok (.v d) ρ := rfl
def kA1S (i : Nat) (ρ : List Sl) : Sl → Res Ar
  | .ow _ => .ok (.s i) ρ
  | _ => .no
@[simp] theorem v_a1S : a1S i ρ = kA1S i ρ (ρ.getD i .no) := by unfold a1S kA1S; cases ρ.getD i .no <;> rfl
@[simp] theorem kA1S_ : kA1S i ρ (.ow d) = .ok (.s i) ρ := rfl
@[simp] theorem arv : (Ar.v d).get ρ = some d := rfl
@[simp] theorem ars : (Ar.s i).get ρ = (ρ.getD i .no).d? := rfl
def kMt3 (f : Fn) (n nk : Nat) (gA : List Ar → List Ar → List Ar) (a : Ar) (as bs : List Ar) (ρ : List Sl) : Res Sl := if as.length = n ∧ bs.length = nk then callF f (gA (a :: as) bs) ρ else .no
def kMt2 (f : Fn) (n nk : Nat) (gA : List Ar → List Ar → List Ar) (tk : EAr) (a : Ar) (as : List Ar) (ρ : List Sl) : Res Sl := (tk ρ).bind (kMt3 f n nk gA a as)
def kMt (c : Nat) (mm : Str) (f : Fn) (n nk : Nat) (gA : List Ar → List Ar → List Ar) (t tk : EAr) (a : Ar) (ρ : List Sl) : Res Sl := if isInsOf c mm (a.get ρ) then (t ρ).bind (kMt2 f n nk gA tk a) else .no
@[simp] theorem v_mt {c : Nat} {mm : Str} {f : Fn} {nk : Nat} {gA : List Ar → List Ar → List Ar} {to : EA1} {t tk : EAr} : eMt c mm f n nk gA to t tk ρ = (to ρ).bind (kMt c mm f n nk gA t tk) := rfl
@[simp] theorem kMt_ {c : Nat} {mm : Str} {f : Fn} {nk : Nat} {gA : List Ar → List Ar → List Ar} {a : Ar} {t tk : EAr} : kMt c mm f n nk gA t tk a ρ = if isInsOf c mm (a.get ρ) then (t ρ).bind (kMt2 f n nk gA tk a) else .no := rfl
@[simp] theorem kMt2_ {f : Fn} {nk : Nat} {gA : List Ar → List Ar → List Ar} {a : Ar} {tk : EAr} {as : List Ar} : kMt2 f n nk gA tk a as ρ = (tk ρ).bind (kMt3 f n nk gA a as) := rfl
@[simp] theorem kMt3_ {f : Fn} {nk : Nat} {gA : List Ar → List Ar → List Ar} {a : Ar} {as bs : List Ar} : kMt3 f n nk gA a as bs ρ = if as.length = n ∧ bs.length = nk then callF f (gA (a :: as) bs) ρ else .no := rfl
def kMk2 (f : Fn) (c n nk : Nat) (gA : List Ar → List Ar → List Ar) (as bs : List Ar) (ρ : List Sl) : Res D := if as.length = n ∧ bs.length = nk then mkEnd ρ.length (callF f (gA (.s ρ.length :: as) bs) (ρ ++ [.ow (.ins c [])])) else .no
def kMk (f : Fn) (c n nk : Nat) (gA : List Ar → List Ar → List Ar) (tk : EAr) (as : List Ar) (ρ : List Sl) : Res D := (tk ρ).bind (kMk2 f c n nk gA as)
@[simp] theorem v_mk {c : Nat} {f : Fn} {nk : Nat} {gA : List Ar → List Ar → List Ar} {t tk : EAr} : eMk c f n nk gA t tk ρ = (t ρ).bind (kMk f c n nk gA tk) := rfl
@[simp] theorem kMk_ {c : Nat} {f : Fn} {nk : Nat} {gA : List Ar → List Ar → List Ar} {tk : EAr} {as : List Ar} : kMk f c n nk gA tk as ρ = (tk ρ).bind (kMk2 f c n nk gA as) := rfl
@[simp] theorem kMk2_ {c : Nat} {f : Fn} {nk : Nat} {gA : List Ar → List Ar → List Ar} {as bs : List Ar} : kMk2 f c n nk gA as bs ρ = if as.length = n ∧ bs.length = nk then mkEnd ρ.length (callF f (gA (.s ρ.length :: as) bs) (ρ ++ [.ow (.ins c [])])) else .no := rfl
def kMkE (n : Nat) (ρ : List Sl) : Sl → Res D
  | .ow d => .ok d (ρ.take n)
  | _ => .no
@[simp] theorem mkEnd_ : mkEnd n (.ok (.fz .non) ρ) = kMkE n ρ (ρ.getD n .no) := by
  unfold mkEnd kMkE
  simp only []
  first | done | (cases ρ.getD n .no <;> rfl)
@[simp] theorem kMkE_ : kMkE n ρ (.ow d) = .ok d (ρ.take n) := rfl
/- instances compared -/
def kInEq2 (c : Nat) (f : Fn) (ng : Bool) (a b : Ar) (ρ : List Sl) : Res D := if isInsC c (a.get ρ) && isInsC c (b.get ρ) then blOf ng (callF f [a, b] ρ) else .no
def kInEq (c : Nat) (f : Fn) (ng : Bool) (tb : EA1) (a : Ar) (ρ : List Sl) : Res D := (tb ρ).bind (kInEq2 c f ng a)
@[simp] theorem v_inEq {c : Nat} {f : Fn} {ng : Bool} {ta tb : EA1} : eInEq c f ng ta tb ρ = (ta ρ).bind (kInEq c f ng tb) := rfl
@[simp] theorem kInEq_ {c : Nat} {f : Fn} {ng : Bool} {tb : EA1} {a : Ar} : kInEq c f ng tb a ρ = (tb ρ).bind (kInEq2 c f ng a) := rfl
@[simp] theorem kInEq2_ {c : Nat} {f : Fn} {ng : Bool} {a b : Ar} : kInEq2 c f ng a b ρ = if isInsC c (a.get ρ) && isInsC c (b.get ρ) then blOf ng (callF f [a, b] ρ) else .no := rfl
@[simp] theorem blOf_ {ng b : Bool} : blOf ng (.ok (.fz (.bl b)) ρ) = .ok (.bl (b ^^ ng)) ρ := rfl
end
end Pu
namespace Pu
open PySem L2 Lc
section
variable {α β γ : Type} {a : α} {x : Xc} {ρ ρ' : List Sl} {s : Sl} {i n m : Nat} {t u : ES} {e e2 : EE} {o o2 o3 : EO} {c c2 : EB} {pn : Nat → Bool} {d : D} {set : GT} {ws : List Nat} {ds : List D}
/- targets -/
@[simp] theorem g_set : gSet i d ρ = some (ρ.set i (.fz d)) := rfl
def gsGo : List GT → List D → List Sl → Option (List Sl)
  | [], [], ρ => some ρ
  | t :: ts, d :: ds, ρ => (t d ρ).bind (gsGo ts ds)
  | _, _, _ => none
theorem gs_eq : ∀ (ts : List GT) (ds : List D) (ρ : List Sl), gTupT.go ts ds ρ = gsGo ts ds ρ
  | [], [], ρ => rfl
  | t :: ts, d :: ds, ρ => by
    show (t d ρ).bind (gTupT.go ts ds) = (t d ρ).bind (gsGo ts ds)
    congr 1
    funext ρ1
    exact gs_eq ts ds ρ1
  | [], _ :: _, _ => rfl
  | _ :: _, [], _ => rfl
@[simp] theorem g_tup {ts : List GT} : gTupT ts (.tup ds) ρ = gsGo ts ds ρ := gs_eq ts ds ρ
@[simp] theorem g_lst {ts : List GT} : gLstT ts (.lst ds) ρ = gsGo ts ds ρ := gs_eq ts ds ρ
@[simp] theorem gsGo_nil : gsGo [] [] ρ = some ρ := rfl
@[simp] theorem gsGo_cons {t : GT} {ts : List GT} : gsGo (t :: ts) (d :: ds) ρ = (t d ρ).bind (gsGo ts ds) := rfl
/- iterables -/
def kSeq (d : D) (ρ : List Sl) : Res (List D) := Res.of d.items? ρ
@[simp] theorem v_iSeq : eiSeq e ρ = (e ρ).bind kSeq := rfl
@[simp] theorem kSeq_ : kSeq d ρ = Res.of d.items? ρ := rfl
@[simp] theorem items_t : (D.tup ds).items? = some ds := rfl
@[simp] theorem items_l : (D.lst ds).items? = some ds := rfl
@[simp] theorem seq_t : (D.tup ds).seq? = some ds := rfl
@[simp] theorem seq_l : (D.lst ds).seq? = some ds := rfl
def kEn (d : D) (ρ : List Sl) : Res (List D) := Res.of (d.seq?.map (enumD 0)) ρ
@[simp] theorem v_iEn : eiEn e ρ = (e ρ).bind kEn := rfl
@[simp] theorem kEn_ : kEn d ρ = Res.of (d.seq?.map (enumD 0)) ρ := rfl
@[simp] theorem enum_nil {k : Int} : enumD k [] = [] := rfl
@[simp] theorem enum_cons {k : Int} : enumD k (d :: ds) = .tup [.int k, d] :: enumD (k + 1) ds := rfl
def kZip2 (x y : D) (ρ : List Sl) : Res (List D) := match x, y with
  | .tup xs, .tup ys => .ok (zipD xs ys) ρ
  | .lst xs, .lst ys => .ok (zipD xs ys) ρ
  | _, _ => .no
def kZip (e2 : EE) (x : D) (ρ : List Sl) : Res (List D) := (e2 ρ).bind (kZip2 x)
@[simp] theorem v_iZip : eiZip e e2 ρ = (e ρ).bind (kZip e2) := rfl
@[simp] theorem kZip_ : kZip e2 d ρ = (e2 ρ).bind (kZip2 d) := rfl
@[simp] theorem kZip_t {xs ys : List D} : kZip2 (.tup xs) (.tup ys) ρ = .ok (zipD xs ys) ρ := rfl
@[simp] theorem kZip_l {xs ys : List D} : kZip2 (.lst xs) (.lst ys) ρ = .ok (zipD xs ys) ρ := rfl
@[simp] theorem zip_nil {ys : List D} : zipD [] ys = [] := rfl
@[simp] theorem zip_nil2 {ys : List D} : zipD ys [] = [] := by cases ys <;> rfl
@[simp] theorem zip_cons {x y : D} {xs ys : List D} : zipD (x :: xs) (y :: ys) = .tup [x, y] :: zipD xs ys := rfl
def kR1 (d : D) (ρ : List Sl) : Res (List D) := match d with
  | .int j => if -1000000 < j ∧ j < 1000000 then .ok (rangeD 0 j.toNat) ρ else .no
  | _ => .no
@[simp] theorem v_iR1 : eiR1 e ρ = (e ρ).bind kR1 := rfl
@[simp] theorem kR1_ {j : Int} : kR1 (.int j) ρ = if -1000000 < j ∧ j < 1000000 then .ok (rangeD 0 j.toNat) ρ else .no := rfl
def kR22 (x y : D) (ρ : List Sl) : Res (List D) := match x, y with
  | .int i, .int j => if -1000000 < i ∧ i < 1000000 ∧ -1000000 < j ∧ j < 1000000 then .ok (rangeD i (j - i).toNat) ρ else .no
  | _, _ => .no
def kR2 (e2 : EE) (x : D) (ρ : List Sl) : Res (List D) := (e2 ρ).bind (kR22 x)
@[simp] theorem v_iR2 : eiR2 e e2 ρ = (e ρ).bind (kR2 e2) := rfl
@[simp] theorem kR2_ : kR2 e2 d ρ = (e2 ρ).bind (kR22 d) := rfl
@[simp] theorem kR22_ {i j : Int} : kR22 (.int i) (.int j) ρ = if -1000000 < i ∧ i < 1000000 ∧ -1000000 < j ∧ j < 1000000 then .ok (rangeD i (j - i).toNat) ρ else .no := rfl
@[simp] theorem range_z {k : Int} : rangeD k 0 = [] := rfl
@[simp] theorem range_s {k : Int} {n : Nat} : rangeD k (n + 1) = .int k :: rangeD (k + 1) n := rfl
def kItems (d : D) (ρ : List Sl) : Res (List D) := match d with
  | .dk kvs => .ok (kvs.map fun kv => .tup [dKey kv.1, kv.2]) ρ
  | _ => .no
@[simp] theorem v_items : eiItems e ρ = (e ρ).bind kItems := by
  unfold eiItems
  congr 1
@[simp] theorem kItems_ {kvs : List (Key × D)} : kItems (.dk kvs) ρ = .ok (kvs.map fun kv => .tup [dKey kv.1, kv.2]) ρ := rfl
@[simp] theorem dKey_i {i : Int} : dKey (.inl i) = .int i := rfl
@[simp] theorem dKey_s {i : Str} : dKey (.inr i) = .str i := rfl
/- for -/
def kForI (set : GT) (body : ES) (ds : List D) (ρ : List Sl) : SRes := sFor set body ds ρ
@[simp] theorem v_for {it : EI} : sForI it set t ρ = (it ρ).thenS (kForI set t) := rfl
@[simp low] theorem kForI_ : kForI set t ds ρ = sFor set t ds ρ := rfl
@[simp] theorem for_nil : sFor set t [] ρ = .nx ρ := rfl
def kForE (set : GT) (body : ES) (ds : List D) : SRes → SRes
  | .nx ρ2 => sFor set body ds ρ2
  | .ct ρ2 => sFor set body ds ρ2
  | .bk ρ2 => .nx ρ2
  | q => q
def kFor (set : GT) (body : ES) (ds : List D) : Option (List Sl) → SRes
  | none => .no
  | some ρ => kForE set body ds (body ρ)
@[simp] theorem for_cons : sFor set t (d :: ds) ρ = kFor set t ds (set d ρ) := by
  show (match set d ρ with
    | none => SRes.no
    | some ρ1 => match t ρ1 with
      | .nx ρ2 => sFor set t ds ρ2
      | .ct ρ2 => sFor set t ds ρ2
      | .bk ρ2 => .nx ρ2
      | q => q) = _
  cases set d ρ with
  | none => rfl
  | some ρ1 =>
    show _ = kForE set t ds (t ρ1)
    simp only []
    cases t ρ1 <;> rfl
@[simp] theorem kFor_ : kFor set t ds (some ρ) = kForE set t ds (t ρ) := rfl
@[simp] theorem kForE_n : kForE set t ds (.nx ρ) = sFor set t ds ρ := rfl
@[simp] theorem kForE_c : kForE set t ds (.ct ρ) = sFor set t ds ρ := rfl
@[simp] theorem kForE_b : kForE set t ds (.bk ρ) = .nx ρ := rfl
@[simp] theorem kForE_r : kForE set t ds (.rt s ρ) = .rt s ρ := rfl
@[simp] theorem kForE_no : kForE set t ds .no = .no := rfl
/- while -/
def kWhE (c : EB) (t : ES) (n : Nat) : SRes → SRes
  | .nx ρ => sWh c t n ρ
  | .ct ρ => sWh c t n ρ
  | .bk ρ => .nx ρ
  | r => r
def kWh (c : EB) (t : ES) (n : Nat) (k : Bool) (ρ : List Sl) : SRes := if k then kWhE c t n (t ρ) else .nx ρ
theorem v_wh : sWh c t (n + 1) ρ = (c ρ).thenS (kWh c t n) := by
  show (c ρ).thenS _ = _
  congr 1
@[simp] theorem kWh_t : kWh c t n true ρ = kWhE c t n (t ρ) := rfl
@[simp] theorem kWh_f : kWh c t n false ρ = .nx ρ := rfl
@[simp] theorem kWhE_n : kWhE c t n (.nx ρ) = sWh c t n ρ := rfl
@[simp] theorem kWhE_c : kWhE c t n (.ct ρ) = sWh c t n ρ := rfl
@[simp] theorem kWhE_b : kWhE c t n (.bk ρ) = .nx ρ := rfl
@[simp] theorem kWhE_r : kWhE c t n (.rt s ρ) = .rt s ρ := rfl
@[simp] theorem kWhE_no : kWhE c t n .no = .no := rfl
/- list comprehensions -/
def kLcY (ws : List Nat) (set : GT) (cond : EB) (elt : EE) (r : List D) (acc : List D) : Res D → Res (List D)
  | .ok y ρ => lcGo ws set cond elt r ρ (acc ++ [y])
  | _ => .no
def kLcC (ws : List Nat) (set : GT) (cond : EB) (elt : EE) (r : List D) (acc : List D) : Res Bool → Res (List D)
  | .ok true ρ => kLcY ws set cond elt r acc (elt ρ)
  | .ok false ρ => lcGo ws set cond elt r ρ acc
  | _ => .no
def kLcS (ws : List Nat) (set : GT) (cond : EB) (elt : EE) (r : List D) (acc : List D) : Option (List Sl) → Res (List D)
  | some ρ => kLcC ws set cond elt r acc (cond ρ)
  | none => .no
def kLcE (ws : List Nat) (ρ0 : List Sl) : Res (List D) → Res D
  | .ok ys ρ1 => if ys.length ≤ LIM then .ok (.lst ys) (backE ρ0 ρ1 ws) else .no
  | _ => .no
def kLc (ws : List Nat) (set : GT) (cond : EB) (elt : EE) (ds : List D) (ρ : List Sl) : Res D := if noOw ρ ws then kLcE ws ρ (lcGo ws set cond elt ds ρ []) else .no
@[simp] theorem v_lc {it : EI} : eLc ws it set c e ρ = (it ρ).bind (kLc ws set c e) := by
  unfold eLc
  congr 1
@[simp low] theorem kLc_ : kLc ws set c e ds ρ = if noOw ρ ws then kLcE ws ρ (lcGo ws set c e ds ρ []) else .no := rfl
@[simp] theorem kLcE_ {ys : List D} : kLcE ws ρ (.ok ys ρ') = if ys.length ≤ LIM then .ok (.lst ys) (backE ρ ρ' ws) else .no := rfl
@[simp] theorem lcGo_nil {acc : List D} : lcGo ws set c e [] ρ acc = .ok acc ρ := rfl
@[simp] theorem lcGo_cons {acc : List D} : lcGo ws set c e (d :: ds) ρ acc = kLcS ws set c e ds acc (set d (wipeE ρ ws)) := by
  show (match set d (wipeE ρ ws) with
    | none => Res.no
    | some ρ1 => match c ρ1 with
      | .ok true ρ2 => (match e ρ2 with
        | .ok y ρ3 => lcGo ws set c e ds ρ3 (acc ++ [y])
        | _ => .no)
      | .ok false ρ2 => lcGo ws set c e ds ρ2 acc
      | _ => .no) = _
  cases set d (wipeE ρ ws) with
  | none => rfl
  | some ρ1 =>
    show _ = kLcC ws set c e ds acc (c ρ1)
    simp only []
    cases c ρ1 with
    | ok b ρ2 =>
      cases b
      · rfl
      · show _ = kLcY ws set c e ds acc (e ρ2)
        simp only []
        cases e ρ2 <;> rfl
    | _ => rfl
@[simp] theorem kLcS_ {acc : List D} : kLcS ws set c e ds acc (some ρ) = kLcC ws set c e ds acc (c ρ) := rfl
@[simp] theorem kLcC_t {acc : List D} : kLcC ws set c e ds acc (.ok true ρ) = kLcY ws set c e ds acc (e ρ) := rfl
@[simp] theorem kLcC_f {acc : List D} : kLcC ws set c e ds acc (.ok false ρ) = lcGo ws set c e ds ρ acc := rfl
@[simp] theorem kLcY_ {acc : List D} : kLcY ws set c e ds acc (.ok d ρ) = lcGo ws set c e ds ρ (acc ++ [d]) := rfl
/- dict comprehensions -/
def kDcP (ws : List Nat) (set : GT) (cond : EB) (ke ve : EE) (r : List D) (acc : List (Key × D)) (y : D) (ρ : List Sl) : Option Key → Res (List (Key × D))
  | some k => if acc.length < LIM then dcGo ws set cond ke ve r ρ (kput acc k y) else .no
  | none => .no
def kDcV (ws : List Nat) (set : GT) (cond : EB) (ke ve : EE) (r : List D) (acc : List (Key × D)) (k : D) : Res D → Res (List (Key × D))
  | .ok y ρ => kDcP ws set cond ke ve r acc y ρ (keyOf k)
  | _ => .no
def kDcK (ws : List Nat) (set : GT) (cond : EB) (ke ve : EE) (r : List D) (acc : List (Key × D)) : Res D → Res (List (Key × D))
  | .ok k ρ => kDcV ws set cond ke ve r acc k (ve ρ)
  | _ => .no
def kDcC (ws : List Nat) (set : GT) (cond : EB) (ke ve : EE) (r : List D) (acc : List (Key × D)) : Res Bool → Res (List (Key × D))
  | .ok true ρ => kDcK ws set cond ke ve r acc (ke ρ)
  | .ok false ρ => dcGo ws set cond ke ve r ρ acc
  | _ => .no
def kDcS (ws : List Nat) (set : GT) (cond : EB) (ke ve : EE) (r : List D) (acc : List (Key × D)) : Option (List Sl) → Res (List (Key × D))
  | some ρ => kDcC ws set cond ke ve r acc (cond ρ)
  | none => .no
def kDcE (ws : List Nat) (ρ0 : List Sl) : Res (List (Key × D)) → Res D
  | .ok ys ρ1 => .ok (.dk ys) (backE ρ0 ρ1 ws)
  | _ => .no
def kDc (ws : List Nat) (set : GT) (cond : EB) (ke ve : EE) (ds : List D) (ρ : List Sl) : Res D := if noOw ρ ws then kDcE ws ρ (dcGo ws set cond ke ve ds ρ []) else .no
@[simp] theorem v_dc {it : EI} : eDc ws it set c e e2 ρ = (it ρ).bind (kDc ws set c e e2) := by
  unfold eDc
  congr 1
@[simp low] theorem kDc_ : kDc ws set c e e2 ds ρ = if noOw ρ ws then kDcE ws ρ (dcGo ws set c e e2 ds ρ []) else .no := rfl
@[simp] theorem kDcE_ {ys : List (Key × D)} : kDcE ws ρ (.ok ys ρ') = .ok (.dk ys) (backE ρ ρ' ws) := rfl
@[simp] theorem dcGo_nil {acc : List (Key × D)} : dcGo ws set c e e2 [] ρ acc = .ok acc ρ := rfl
@[simp] theorem dcGo_cons {acc : List (Key × D)} : dcGo ws set c e e2 (d :: ds) ρ acc = kDcS ws set c e e2 ds acc (set d (wipeE ρ ws)) := by
  rw [dcGo]
  cases set d (wipeE ρ ws) with
  | none => rfl
  | some ρ1 =>
    show _ = kDcC ws set c e e2 ds acc (c ρ1)
    simp only []
    cases c ρ1 with
    | ok b ρ2 =>
      cases b
      · rfl
      · show _ = kDcK ws set c e e2 ds acc (e ρ2)
        simp only []
        cases e ρ2 with
        | ok k ρ3 =>
          show _ = kDcV ws set c e e2 ds acc k (e2 ρ3)
          simp only []
          cases e2 ρ3 with
          | ok y ρ4 =>
            show _ = kDcP ws set c e e2 ds acc y ρ4 (keyOf k)
            simp only []
            cases keyOf k <;> rfl
          | _ => rfl
        | _ => rfl
    | _ => rfl
@[simp] theorem kDcS_ {acc : List (Key × D)} : kDcS ws set c e e2 ds acc (some ρ) = kDcC ws set c e e2 ds acc (c ρ) := rfl
@[simp] theorem kDcC_t {acc : List (Key × D)} : kDcC ws set c e e2 ds acc (.ok true ρ) = kDcK ws set c e e2 ds acc (e ρ) := rfl
@[simp] theorem kDcC_f {acc : List (Key × D)} : kDcC ws set c e e2 ds acc (.ok false ρ) = dcGo ws set c e e2 ds ρ acc := rfl
@[simp] theorem kDcK_ {acc : List (Key × D)} : kDcK ws set c e e2 ds acc (.ok d ρ) = kDcV ws set c e e2 ds acc d (e2 ρ) := rfl
@[simp] theorem kDcV_ {acc : List (Key × D)} {k : D} : kDcV ws set c e e2 ds acc k (.ok d ρ) = kDcP ws set c e e2 ds acc d ρ (keyOf k) := rfl
@[simp] theorem kDcP_ {acc : List (Key × D)} {k : Key} : kDcP ws set c e e2 ds acc d ρ (some k) = if acc.length < LIM then dcGo ws set c e e2 ds ρ (kput acc k d) else .no := rfl
@[simp] theorem key_i {i : Int} : keyOf (.int i) = some (.inl i) := rfl
@[simp] theorem key_s {i : Str} : keyOf (.str i) = some (.inr i) := rfl
/- own lists -/
def kApp2 (i : Nat) (d : D) (ρ : List Sl) : Sl → Res D
  | .ow (.lst xs) => if xs.length < LIM then .ok .non (ρ.set i (.ow (.lst (xs ++ [d])))) else .no
  | _ => .no
def kApp1 (i : Nat) (d : D) (ρ : List Sl) : Res D := kApp2 i d ρ (ρ.getD i .no)
def kApp (i : Nat) (e : EE) (ρ : List Sl) : Sl → Res D
  | .ow (.lst _) => (e ρ).bind (kApp1 i)
  | _ => .no
@[simp] theorem v_app : eApp i e ρ = kApp i e ρ (ρ.getD i .no) := by
  unfold eApp kApp
  split <;> simp_all
  congr 1
@[simp] theorem kApp_ : kApp i e ρ (.ow (.lst ds)) = (e ρ).bind (kApp1 i) := rfl
@[simp] theorem kApp1_ : kApp1 i d ρ = kApp2 i d ρ (ρ.getD i .no) := rfl
@[simp] theorem kApp2_ : kApp2 i d ρ (.ow (.lst ds)) = if ds.length < LIM then .ok .non (ρ.set i (.ow (.lst (ds ++ [d])))) else .no := rfl
def kExt2 (i : Nat) (ρ : List Sl) : Sl → D → Res D
  | .ow (.lst xs), .lst ys => if xs.length + ys.length < LIM then .ok .non (ρ.set i (.ow (.lst (xs ++ ys)))) else .no
  | _, _ => .no
def kExt1 (i : Nat) (d : D) (ρ : List Sl) : Res D := kExt2 i ρ (ρ.getD i .no) d
def kExt (i : Nat) (e : EE) (ρ : List Sl) : Sl → Res D
  | .ow (.lst _) => (e ρ).bind (kExt1 i)
  | _ => .no
@[simp] theorem v_ext : eExt i e ρ = kExt i e ρ (ρ.getD i .no) := by
  unfold eExt kExt
  split <;> simp_all
  congr 1
@[simp] theorem kExt_ : kExt i e ρ (.ow (.lst ds)) = (e ρ).bind (kExt1 i) := rfl
@[simp] theorem kExt1_ : kExt1 i d ρ = kExt2 i ρ (ρ.getD i .no) d := rfl
@[simp] theorem kExt2_ {ys : List D} : kExt2 i ρ (.ow (.lst ds)) (.lst ys) = if ds.length + ys.length < LIM then .ok .non (ρ.set i (.ow (.lst (ds ++ ys)))) else .no := rfl
def kPop2 (i : Nat) (xs : List D) (ρ : List Sl) : Option D → Res D
  | some d => .ok d (ρ.set i (.ow (.lst xs.dropLast)))
  | none => .no
def kPop (i : Nat) (ρ : List Sl) : Sl → Res D
  | .ow (.lst xs) => kPop2 i xs ρ xs[xs.length - 1]?
  | _ => .no
@[simp] theorem v_pop : ePop i ρ = kPop i ρ (ρ.getD i .no) := by
  unfold ePop kPop
  split <;> simp_all
  unfold kPop2
  split <;> simp_all
@[simp] theorem kPop_ : kPop i ρ (.ow (.lst ds)) = kPop2 i ds ρ ds[ds.length - 1]? := rfl
@[simp] theorem kPop2_ : kPop2 i ds ρ (some d) = .ok d (ρ.set i (.ow (.lst ds.dropLast))) := rfl
def kPop0 (i : Nat) (ρ : List Sl) : Sl → Res D
  | .ow (.lst (d :: r)) => .ok d (ρ.set i (.ow (.lst r)))
  | _ => .no
@[simp] theorem v_pop0 : ePop0 i ρ = kPop0 i ρ (ρ.getD i .no) := by
  unfold ePop0 kPop0
  split <;> simp_all
@[simp] theorem kPop0_ : kPop0 i ρ (.ow (.lst (d :: ds))) = .ok d (ρ.set i (.ow (.lst ds))) := rfl
/- fields -/
def kFld2 (c i : Nat) (f : Str) (d : D) (ρ : List Sl) : Sl → SRes
  | .ow (.ins c' fs) => if c' = c ∧ fs.length < 1000 then .nx (ρ.set i (.ow (.ins c (fput f d fs)))) else .no
  | _ => .no
def kFld (c i : Nat) (f : Str) (d : D) (ρ : List Sl) : SRes := kFld2 c i f d ρ (ρ.getD i .no)
@[simp] theorem v_fldS {c : Nat} {f : Str} : sFldS c i f e ρ = (e ρ).thenS (kFld c i f) := by
  unfold sFldS
  congr 1
@[simp] theorem kFld_ {c : Nat} {f : Str} : kFld c i f d ρ = kFld2 c i f d ρ (ρ.getD i .no) := rfl
@[simp] theorem kFld2_ {c c' : Nat} {f : Str} {fs : List (Str × D)} : kFld2 c i f d ρ (.ow (.ins c' fs)) = if c' = c ∧ fs.length < 1000 then .nx (ρ.set i (.ow (.ins c (fput f d fs)))) else .no := rfl
/- dicts -/
@[simp] theorem v_d0 : eD0 ρ = .ok (.dk []) ρ := rfl
def kPut3 (i : Nat) (kvs : List (Key × D)) (d : D) (ρ : List Sl) : Option Key → SRes
  | some k => if kvs.length < LIM then .nx (ρ.set i (.ow (.dk (kput kvs k d)))) else .no
  | none => .no
theorem put_k {kvs : List (Key × D)} {k : D} (h : ρ.getD i .no = .ow (.dk kvs)) : putE i k d ρ = kPut3 i kvs d ρ (keyOf k) := by
  unfold putE
  rw [h]
  simp only []
  unfold kPut3
  cases keyOf k <;> rfl
def kDPut1 (i : Nat) (d : D) (k : D) (ρ : List Sl) : SRes := putE i k d ρ
def kDPut2 (i : Nat) (tk : EE) (d : D) (ρ : List Sl) : Sl → SRes
  | .ow _ => (tk ρ).thenS (kDPut1 i d)
  | _ => .no
def kDPut (i : Nat) (tk : EE) (d : D) (ρ : List Sl) : SRes := kDPut2 i tk d ρ (ρ.getD i .no)
@[simp] theorem v_dput : Lc.sDPut i e e2 ρ = (e2 ρ).thenS (kDPut i e) := by
  unfold Lc.sDPut
  congr 1
@[simp] theorem kDPut_ : kDPut i e d ρ = kDPut2 i e d ρ (ρ.getD i .no) := rfl
@[simp] theorem kDPut2_ {k : D} : kDPut2 i e d ρ (.ow k) = (e ρ).thenS (kDPut1 i d) := rfl
@[simp] theorem kDPut1_ {k : D} : kDPut1 i d k ρ = putE i k d ρ := rfl
@[simp] theorem kPut3_ {kvs : List (Key × D)} {k : Key} : kPut3 i kvs d ρ (some k) = if kvs.length < LIM then .nx (ρ.set i (.ow (.dk (kput kvs k d)))) else .no := rfl
def kPutS (i : Nat) (k d : D) (ρ : List Sl) (s : Sl) : SRes := match s with
  | .ow (.dk kvs) => kPut3 i kvs d ρ (keyOf k)
  | _ => putE i k d ρ
@[simp] theorem v_putE {k : D} : putE i k d ρ = kPutS i k d ρ (ρ.getD i .no) := by
  unfold kPutS
  split
  · rename_i h
    exact put_k h
  · rfl
@[simp] theorem kPutS_ {k : D} {kvs : List (Key × D)} : kPutS i k d ρ (.ow (.dk kvs)) = kPut3 i kvs d ρ (keyOf k) := rfl
def kD1c (v : D) (ρ : List Sl) : Option Key → Res D
  | some k => .ok (.dk [(k, v)]) ρ
  | none => .no
def kD1b (k v : D) (ρ : List Sl) : Res D := kD1c v ρ (keyOf k)
def kD1 (tv : EE) (k : D) (ρ : List Sl) : Res D := (tv ρ).bind (kD1b k)
@[simp] theorem v_d1 : eD1 e e2 ρ = (e ρ).bind (kD1 e2) := by
  unfold eD1
  congr 1
@[simp] theorem kD1_ : kD1 e2 d ρ = (e2 ρ).bind (kD1b d) := rfl
@[simp] theorem kD1b_ {v : D} : kD1b d v ρ = kD1c v ρ (keyOf d) := rfl
@[simp] theorem kD1c_ {k : Key} : kD1c d ρ (some k) = .ok (.dk [(k, d)]) ρ := rfl
/- what is drawn from -/
def kOmAt (f : MSt → Option D) (ρ : List Sl) : Sl → Res D
  | .ow (.om m) => Res.of (f m) ρ
  | _ => .no
@[simp] theorem v_omAt {f : MSt → Option D} : omAt i f ρ = kOmAt f ρ (ρ.getD i .no) := by
  unfold omAt kOmAt
  split <;> simp_all
@[simp] theorem kOmAt_ {f : MSt → Option D} {m : MSt} : kOmAt f ρ (.ow (.om m)) = Res.of (f m) ρ := rfl
def kOmS2 (i : Nat) (ρ : List Sl) : Option MSt → SRes
  | some m' => .nx (ρ.set i (.ow (.om m')))
  | none => .no
def kOmS (i : Nat) (f : MSt → Option MSt) (ρ : List Sl) : Sl → SRes
  | .ow (.om m) => kOmS2 i ρ (f m)
  | _ => .no
@[simp] theorem v_omSet {f : MSt → Option MSt} : omSet i f ρ = kOmS i f ρ (ρ.getD i .no) := by
  unfold omSet
  generalize ρ.getD i .no = s
  cases s with
  | ow d => cases d with
    | om m =>
      show _ = kOmS2 i ρ (f m)
      simp only []
      cases f m <;> rfl
    | _ => rfl
  | _ => rfl
@[simp] theorem kOmS_ {f : MSt → Option MSt} {m : MSt} : kOmS i f ρ (.ow (.om m)) = kOmS2 i ρ (f m) := rfl
@[simp] theorem kOmS2_ {m : MSt} : kOmS2 i ρ (some m) = .nx (ρ.set i (.ow (.om m))) := rfl
def kOmI (i : Nat) (f : MSt → Int → Option MSt) (d : D) (ρ : List Sl) : SRes := match d with
  | .int k => omSet i (fun m => f m k) ρ
  | _ => .no
@[simp] theorem v_omSetI {f : MSt → Int → Option MSt} : omSetI i e f ρ = (e ρ).thenS (kOmI i f) := rfl
@[simp] theorem kOmI_ {f : MSt → Int → Option MSt} {k : Int} : kOmI i f (.int k) ρ = omSet i (fun m => f m k) ρ := rfl
/- parallel assignment -/
@[simp] theorem v_pNil : pNil ρ = .ok [] ρ := rfl
def kPVal2 (s : Sl) (ss : List Sl) (ρ : List Sl) : Res (List Sl) := .ok (s :: ss) ρ
def kPVal (r : EP) (d : D) (ρ : List Sl) : Res (List Sl) := (r ρ).bind (kPVal2 (.fz d))
@[simp] theorem v_pVal {r : EP} : pVal e r ρ = (e ρ).bind (kPVal r) := rfl
@[simp] theorem kPVal_ {r : EP} : kPVal r d ρ = (r ρ).bind (kPVal2 (.fz d)) := rfl
@[simp] theorem kPVal2_ {ss : List Sl} : kPVal2 s ss ρ = .ok (s :: ss) ρ := rfl
def kPOwn (r : EP) (d : D) (ρ : List Sl) : Res (List Sl) := if d.oneA then (r ρ).bind (kPVal2 (.ow d)) else .no
@[simp] theorem v_pOwn {r : EP} : pOwn e r ρ = (e ρ).bind (kPOwn r) := rfl
@[simp] theorem kPOwn_ {r : EP} : kPOwn r d ρ = if d.oneA then (r ρ).bind (kPVal2 (.ow d)) else .no := rfl
def kPar2 : Option (List Sl) → SRes
  | some ρ => .nx ρ
  | none => .no
def kPar (pn : Nat → Bool) (is : List Nat) (ss : List Sl) (ρ : List Sl) : SRes := kPar2 (setAll pn is ss ρ)
@[simp] theorem v_par {is : List Nat} {r : EP} : sPar pn is r ρ = (r ρ).thenS (kPar pn is) := by
  unfold sPar
  congr 1
@[simp] theorem kPar_ {is : List Nat} {ss : List Sl} : kPar pn is ss ρ = kPar2 (setAll pn is ss ρ) := rfl
@[simp] theorem kPar2_ : kPar2 (some ρ) = .nx ρ := rfl
@[simp] theorem setAll_nil : setAll pn [] [] ρ = some ρ := rfl
@[simp] theorem setAll_cons {is : List Nat} {ss : List Sl} : setAll pn (i :: is) (s :: ss) ρ = if pn i then none else setAll pn is ss (ρ.set i s) := rfl
def kUn (set : GT) (d : D) (ρ : List Sl) : SRes := kPar2 (set d ρ)
@[simp] theorem v_un : sUn set e ρ = (e ρ).thenS (kUn set) := by
  unfold sUn
  congr 1
@[simp] theorem kUn_ : kUn set d ρ = kPar2 (set d ρ) := rfl
end
end Pu
namespace Pu
open PySem L2 Lc
section
variable {α β γ : Type} {a : α} {x : Xc} {ρ ρ' as' : List Sl} {s : Sl} {i n m k : Nat} {pn : Nat → Bool} {d d2 : D} {ws : List Nat} {ds : List D} {as : List Ar}
@[simp] theorem wipe_nil : wipeE ρ [] = ρ := rfl
@[simp] theorem wipe_cons : wipeE ρ (i :: ws) = (wipeE ρ ws).set i .no := rfl
@[simp] theorem back_nil : backE ρ ρ' [] = ρ' := rfl
@[simp] theorem back_cons : backE ρ ρ' (i :: ws) = (backE ρ ρ' ws).set i (ρ.getD i .no) := rfl
def notOw : Sl → Bool
  | .ow _ => false
  | _ => true
@[simp] theorem notOw_n : notOw .no = true := rfl
@[simp] theorem notOw_f : notOw (.fz d) = true := rfl
@[simp] theorem notOw_o : notOw (.ow d) = false := rfl
@[simp] theorem noOw_nil : noOw ρ [] = true := rfl
@[simp] theorem noOw_cons : noOw ρ (i :: ws) = (notOw (ρ.getD i .no) && noOw ρ ws) := by
  show ((match ρ.getD i .no with
  | .ow _ => false
  | _ => true) && noOw ρ ws) = _
  cases ρ.getD i .no <;> rfl
@[simp] theorem okAs_nil : okAs ρ [] = true := rfl
@[simp] theorem okAs_v : okAs ρ (.v d :: as) = okAs ρ as := rfl
@[simp] theorem okAs_s : okAs ρ (.s i :: as) = ((ρ.getD i .no).isOw && !(as.any (Ar.is i)) && okAs ρ as) := rfl
@[simp] theorem isOw_o : (Sl.ow d).isOw = true := rfl
@[simp] theorem arIs_v : Ar.is i (.v d) = false := rfl
@[simp] theorem arIs_s : Ar.is i (.s k) = (k == i) := rfl
@[simp] theorem asOf_nil : asOf ρ [] = [] := rfl
@[simp] theorem asOf_v : asOf ρ (.v d :: as) = .fz d :: asOf ρ as := rfl
@[simp] theorem asOf_s : asOf ρ (.s i :: as) = ρ.getD i .no :: asOf ρ as := rfl
@[simp] theorem backA_nil : backA [] as' ρ = ρ := by cases as' <;> rfl
@[simp] theorem backA_v : backA (.v d :: as) (s :: as') ρ = backA as as' ρ := rfl
@[simp] theorem backA_s : backA (.s i :: as) (s :: as') ρ = (backA as as' ρ).set i s := rfl
def pickC {α : Type} (o : Option α) (r : List α) : List α := match o with
  | some a => a :: r
  | none => r
@[simp] theorem pickC_ {r : List α} : pickC (some a) r = a :: r := rfl
@[simp] theorem ord_ {js : List Nat} {l r : List α} : ordL js l r = pickL js (l ++ r) := rfl
@[simp] theorem pick_nil {l : List α} : pickL [] l = [] := rfl
@[simp] theorem pick_cons {js : List Nat} {l : List α} : pickL (i :: js) l = pickC l[i]? (pickL js l) := by
  unfold pickL
  rw [List.filterMap_cons]
  cases l[i]? <;> rfl
def maskG (pn : Nat → Bool) (ρ : List Sl) : Nat → Nat → List Sl
  | _, 0 => []
  | k, n + 1 => (if pn k then ρ.getD k .no else .no) :: maskG pn ρ (k + 1) n
theorem maskG_eq : ∀ (n k : Nat), maskG pn ρ k n = (List.range' k n).map fun k => if pn k then ρ.getD k .no else .no
  | 0, _ => rfl
  | n + 1, k => by simp [maskG, List.range'_succ, maskG_eq n (k + 1)]
@[simp] theorem mask_ : maskE pn n ρ = maskG pn ρ 0 n := by
  rw [maskG_eq]
  unfold maskE
  rw [List.range_eq_range']
@[simp] theorem maskG_z : maskG pn ρ k 0 = [] := rfl
@[simp] theorem maskG_s : maskG pn ρ k (n + 1) = (if pn k then ρ.getD k .no else .no) :: maskG pn ρ (k + 1) n := rfl
/- data -/
@[simp] theorem isi_non {cs : List Tg} : isiD n cs .non = some (.bl (cs.any (Tg.sub .non))) := rfl
@[simp] theorem isi_bl {cs : List Tg} {b : Bool} : isiD n cs (.bl b) = some (.bl (cs.any (Tg.sub .bl))) := rfl
@[simp] theorem isi_int {cs : List Tg} {b : Int} : isiD n cs (.int b) = some (.bl (cs.any (Tg.sub .int))) := rfl
@[simp] theorem isi_str {cs : List Tg} {b : Str} : isiD n cs (.str b) = some (.bl (cs.any (Tg.sub .str))) := rfl
@[simp] theorem isi_tup {cs : List Tg} : isiD n cs (.tup ds) = some (.bl (cs.any (Tg.sub .tup))) := rfl
@[simp] theorem isi_lst {cs : List Tg} : isiD n cs (.lst ds) = some (.bl (cs.any (Tg.sub .lst))) := rfl
@[simp] theorem isi_dk {cs : List Tg} {kvs : List (Key × D)} : isiD n cs (.dk kvs) = some (.bl (cs.any (Tg.sub .dk))) := rfl
@[simp] theorem om_non : D.non.isOm = false := rfl
@[simp] theorem om_bl {b : Bool} : (D.bl b).isOm = false := rfl
@[simp] theorem om_int {b : Int} : (D.int b).isOm = false := rfl
@[simp] theorem om_str {b : Str} : (D.str b).isOm = false := rfl
@[simp] theorem om_tup : (D.tup ds).isOm = false := rfl
@[simp] theorem om_lst : (D.lst ds).isOm = false := rfl
@[simp] theorem om_dk {kvs : List (Key × D)} : (D.dk kvs).isOm = false := rfl
@[simp] theorem om_dt {kvs : List (List Key × D)} : (D.dt kvs).isOm = false := rfl
@[simp] theorem om_ins {c : Nat} {fs : List (Str × D)} : (D.ins c fs).isOm = false := rfl
@[simp] theorem oneA_l : (D.lst ds).oneA = true := rfl
@[simp] theorem oneA_d {kvs : List (Key × D)} : (D.dk kvs).oneA = true := rfl
@[simp] theorem oneA_t {kvs : List (List Key × D)} : (D.dt kvs).oneA = true := rfl
@[simp] theorem le_i {i j : Int} : D.leD (.int i) (.int j) = some (.bl (decide (i ≤ j))) := rfl
@[simp] theorem ge_i {i j : Int} : D.geD (.int i) (.int j) = some (.bl (decide (j ≤ i))) := rfl
@[simp] theorem gt_i {i j : Int} : D.gtD (.int i) (.int j) = some (.bl (decide (j < i))) := rfl
@[simp] theorem lt_i {i j : Int} : D.ltD (.int i) (.int j) = some (.bl (decide (i < j))) := rfl
@[simp] theorem lt_s {x y : Str} : D.ltD (.str x) (.str y) = some (.bl (decide (x.cps.toList < y.cps.toList))) := rfl
@[simp] theorem add_i {i j : Int} : D.addD (.int i) (.int j) = some (.int (i + j)) := rfl
@[simp] theorem add_t {x y : List D} : D.addD (.tup x) (.tup y) = if x.length + y.length ≤ LIM then some (.tup (x ++ y)) else none := rfl
@[simp] theorem add_l {x y : List D} : D.addD (.lst x) (.lst y) = if x.length + y.length ≤ LIM then some (.lst (x ++ y)) else none := rfl
@[simp] theorem sub_i {i j : Int} : D.subD (.int i) (.int j) = some (.int (i - j)) := rfl
@[simp] theorem neg_i {i : Int} : D.negD (.int i) = some (.int (-i)) := rfl
@[simp] theorem len_t {x : List D} : D.lenD (.tup x) = some (.int x.length) := rfl
@[simp] theorem len_l {x : List D} : D.lenD (.lst x) = some (.int x.length) := rfl
@[simp] theorem len_d {x : List (Key × D)} : D.lenD (.dk x) = some (.int x.length) := rfl
@[simp] theorem len_c {x : List Int} : D.lenD (.scr x) = some (.int x.length) := rfl
@[simp] theorem is_n : D.isD d .non = some (.bl d.isN) := by cases d <;> rfl
@[simp] theorem isn_n : D.isnD d .non = some (.bl (!d.isN)) := by cases d <;> rfl
@[simp] theorem is_b {a b : Bool} : D.isD (.bl a) (.bl b) = some (.bl (decide (a = b))) := rfl
@[simp] theorem isn_b {a b : Bool} : D.isnD (.bl a) (.bl b) = some (.bl (!decide (a = b))) := rfl
@[simp] theorem tuple_l : D.tupleD (.lst ds) = some (.tup ds) := rfl
@[simp] theorem tuple_t : D.tupleD (.tup ds) = some (.tup ds) := rfl
@[simp] theorem list_l : listD (.lst ds) = some (.lst ds) := rfl
@[simp] theorem list_t : listD (.tup ds) = some (.lst ds) := rfl
@[simp] theorem int_i {i : Int} : D.intD (.int i) = some (.int i) := rfl
@[simp] theorem ints_nil : D.ints [] = some [] := rfl
@[simp] theorem ints_c {i : Int} : D.ints (.int i :: ds) = (D.ints ds).map (i :: ·) := rfl
@[simp] theorem ints_s {i : Str} : D.ints (.str i :: ds) = none := rfl
@[simp] theorem ints_t {i : List D} : D.ints (.tup i :: ds) = none := rfl
@[simp] theorem strs_nil : D.strs [] = some [] := rfl
@[simp] theorem strs_c {i : Str} : D.strs (.str i :: ds) = (D.strs ds).map (i :: ·) := rfl
@[simp] theorem bls_nil : D.bls [] = some [] := rfl
@[simp] theorem bls_c {b : Bool} : D.bls (.bl b :: ds) = (D.bls ds).map (b :: ·) := rfl
@[simp] theorem all_l : D.allD (.lst ds) = (D.bls ds).map fun bs => .bl (bs.all id) := rfl
@[simp] theorem any_l : D.anyD (.lst ds) = (D.bls ds).map fun bs => .bl (bs.any id) := rfl
@[simp] theorem sum_l : D.sumD (.lst ds) = (D.ints ds).map fun bs => .int bs.sum := rfl
@[simp] theorem ix_t {i : Int} : D.ixD (.tup ds) (.int i) = atI ds i := rfl
@[simp] theorem ix_l {i : Int} : D.ixD (.lst ds) (.int i) = atI ds i := rfl
@[simp] theorem sl_t {lo hi : Option Int} : D.slD (.tup ds) lo hi = some (.tup (cutL ds lo hi)) := rfl
@[simp] theorem sl_l {lo hi : Option Int} : D.slD (.lst ds) lo hi = some (.lst (cutL ds lo hi)) := rfl
@[simp] theorem fld_i {c c' : Nat} {f : Str} {fs : List (Str × D)} : D.fldC c f (.ins c' fs) = if c' = c then fs.lookup f else none := rfl
@[simp] theorem isInsOf_ {c c' : Nat} {f : Str} {fs : List (Str × D)} : isInsOf c f (some (.ins c' fs)) = (c' == c && (fs.lookup f).isNone) := rfl
@[simp] theorem isInsC_ {c c' : Nat} {fs : List (Str × D)} : isInsC c (some (.ins c' fs)) = (c' == c) := rfl
@[simp] theorem oB_ {b : Bool} : oB (some b) = some (.bl b) := rfl
@[simp] theorem get_k {kvs : List (Key × D)} {k : D} : D.dgetD (.dk kvs) k = ((keyOf k).map (kfind kvs)).bind id := by
  unfold D.dgetD D.dget
  cases k <;> rfl
@[simp] theorem feq_i {i j : Int} : D.eqD (.int i) (.int j) = some (.bl (i == j)) := rfl
@[simp] theorem fne_i {i j : Int} : D.neD (.int i) (.int j) = some (.bl (!(i == j))) := rfl
/- == in general -/
def eqP : Option PyData → Option PyData → Option Bool
  | some p, some q => if SeqAt.shaped p && SeqAt.shaped q then some (PyData.eqv p q) else none
  | _, _ => none
@[simp] theorem eqP_ {p q : PyData} : eqP (some p) (some q) = if SeqAt.shaped p && SeqAt.shaped q then some (PyData.eqv p q) else none := rfl
@[simp] theorem eqB_ : D.eqB d d2 = eqP d.py d2.py := by
  unfold D.eqB eqP
  cases d.py <;> cases d2.py <;> rfl
@[simp low] theorem eqD_ : D.eqD d d2 = oB (D.eqB d d2) := rfl
@[simp low] theorem neD_ : D.neD d d2 = oB ((D.eqB d d2).map not) := rfl
@[simp] theorem oB_n : oB none = none := rfl
@[simp] theorem py_non : D.non.py = some .none := rfl
@[simp] theorem py_bl {b : Bool} : (D.bl b).py = some (.bool b) := rfl
@[simp] theorem py_int {b : Int} : (D.int b).py = some (.int b) := rfl
@[simp] theorem py_str {b : Str} : (D.str b).py = some (.str b) := rfl
@[simp] theorem py_tup : (D.tup ds).py = (D.pys ds).map .tuple := rfl
@[simp] theorem py_lst : (D.lst ds).py = (D.pys ds).map .list := rfl
@[simp] theorem pys_nil : D.pys [] = some [] := rfl
def pysC : Option PyData → Option (List PyData) → Option (List PyData)
  | some p, some ps => some (p :: ps)
  | _, _ => none
@[simp] theorem pysC_ {p : PyData} {ps : List PyData} : pysC (some p) (some ps) = some (p :: ps) := rfl
@[simp] theorem pys_cons : D.pys (d :: ds) = pysC d.py (D.pys ds) := by
  rw [D.pys]
  unfold pysC
  cases d.py <;> cases D.pys ds <;> rfl
@[simp] theorem shaped_ {p : PyData} : SeqAt.shaped p = (p.canLay0 && decide (p.depth ≤ 64)) := rfl
@[simp] theorem lay_non : PyData.canLay0 .none = true := rfl
@[simp] theorem lay_bl {b : Bool} : PyData.canLay0 (.bool b) = true := rfl
@[simp] theorem lay_int {b : Int} : PyData.canLay0 (.int b) = true := rfl
@[simp] theorem lay_str {b : Str} : PyData.canLay0 (.str b) = PyData.strOk b := rfl
@[simp] theorem lay_tup {ps : List PyData} : PyData.canLay0 (.tuple ps) = PyData.canLayAll0 ps := rfl
@[simp] theorem lay_lst {ps : List PyData} : PyData.canLay0 (.list ps) = PyData.canLayAll0 ps := rfl
@[simp] theorem layA_nil : PyData.canLayAll0 [] = true := rfl
@[simp] theorem layA_cons {p : PyData} {ps : List PyData} : PyData.canLayAll0 (p :: ps) = (p.canLay0 && PyData.canLayAll0 ps) := rfl
@[simp] theorem dep_non : PyData.depth .none = 0 := rfl
@[simp] theorem dep_bl {b : Bool} : PyData.depth (.bool b) = 0 := rfl
@[simp] theorem dep_int {b : Int} : PyData.depth (.int b) = 0 := rfl
@[simp] theorem dep_str {b : Str} : PyData.depth (.str b) = 0 := rfl
@[simp] theorem dep_tup {ps : List PyData} : PyData.depth (.tuple ps) = PyData.depthAll ps + 1 := rfl
@[simp] theorem dep_lst {ps : List PyData} : PyData.depth (.list ps) = PyData.depthAll ps + 1 := rfl
@[simp] theorem depA_nil : PyData.depthAll [] = 0 := rfl
@[simp] theorem depA_cons {p : PyData} {ps : List PyData} : PyData.depthAll (p :: ps) = max p.depth (PyData.depthAll ps) := rfl
@[simp] theorem eqv_ii {i j : Int} : PyData.eqv (.int i) (.int j) = (i == j) := rfl
@[simp] theorem eqv_ss {i j : Str} : PyData.eqv (.str i) (.str j) = (i == j) := rfl
@[simp] theorem eqv_nn : PyData.eqv .none .none = true := rfl
@[simp] theorem eqv_bb {i j : Bool} : PyData.eqv (.bool i) (.bool j) = (i == j) := rfl
@[simp] theorem eqv_tt {ps qs : List PyData} : PyData.eqv (.tuple ps) (.tuple qs) = PyData.eqvAll ps qs := rfl
@[simp] theorem eqv_ll {ps qs : List PyData} : PyData.eqv (.list ps) (.list qs) = PyData.eqvAll ps qs := rfl
@[simp] theorem eqv_is {i : Int} {x : Str} : PyData.eqv (.int i) (.str x) = false := rfl
@[simp] theorem eqv_si {i : Int} {x : Str} : PyData.eqv (.str x) (.int i) = false := rfl
@[simp] theorem eqv_it {i : Int} {x : List PyData} : PyData.eqv (.int i) (.tuple x) = false := rfl
@[simp] theorem eqv_ti {i : Int} {x : List PyData} : PyData.eqv (.tuple x) (.int i) = false := rfl
@[simp] theorem eqvA_nn : PyData.eqvAll [] [] = true := rfl
@[simp] theorem eqvA_cc {p q : PyData} {ps qs : List PyData} : PyData.eqvAll (p :: ps) (q :: qs) = (PyData.eqv p q && PyData.eqvAll ps qs) := rfl
@[simp] theorem eqvA_nc {q : PyData} {qs : List PyData} : PyData.eqvAll [] (q :: qs) = false := rfl
@[simp] theorem eqvA_cn {q : PyData} {qs : List PyData} : PyData.eqvAll (q :: qs) [] = false := rfl
/- in -/
def inP (l : Bool) : Option PyData → Option (List PyData) → Option Bool
  | some p, some ps => if SeqAt.shaped p && SeqAt.shaped (if l then .list ps else .tuple ps) then some (ps.any fun z => PyData.eqv z p) else none
  | _, _ => none
@[simp] theorem inP_ {l : Bool} {p : PyData} {ps : List PyData} : inP l (some p) (some ps) = if SeqAt.shaped p && SeqAt.shaped (if l then .list ps else .tuple ps) then some (ps.any fun z => PyData.eqv z p) else none := rfl
@[simp] theorem in_t : D.inD d (.tup ds) = oB (inP false d.py (D.pys ds)) := by
  unfold D.inD
  congr 1
@[simp] theorem in_l : D.inD d (.lst ds) = oB (inP true d.py (D.pys ds)) := by
  unfold D.inD
  congr 1
@[simp] theorem nin_t : D.ninD d (.tup ds) = oB ((inP false d.py (D.pys ds)).map not) := by
  unfold D.ninD
  congr 2
@[simp] theorem nin_l : D.ninD d (.lst ds) = oB ((inP true d.py (D.pys ds)).map not) := by
  unfold D.ninD
  congr 2
@[simp] theorem in_d {kvs : List (Key × D)} {i : Int} : D.inD (.int i) (.dk kvs) = some (.bl (kfind kvs (.inl i)).isSome) := rfl
@[simp] theorem nin_d {kvs : List (Key × D)} {i : Int} : D.ninD (.int i) (.dk kvs) = some (.bl (!(kfind kvs (.inl i)).isSome)) := rfl
@[simp] theorem in_ds {kvs : List (Key × D)} {i : Str} : D.inD (.str i) (.dk kvs) = some (.bl (kfind kvs (.inr i)).isSome) := rfl
@[simp] theorem nin_ds {kvs : List (Key × D)} {i : Str} : D.ninD (.str i) (.dk kvs) = some (.bl (!(kfind kvs (.inr i)).isSome)) := rfl
@[simp] theorem kfind_nil {κ : Type} [DecidableEq κ] {k : κ} : kfind [] k = none := rfl
@[simp] theorem kfind_cons {κ : Type} [DecidableEq κ] {k k2 : κ} {r : List (κ × D)} : kfind ((k2, d) :: r) k = if k2 = k then some d else kfind r k := by
  unfold kfind
  by_cases h : k2 = k <;> simp [h]
@[simp] theorem ins1_nil {le : α → α → Bool} {a : α} : ins1 le a [] = [a] := rfl
@[simp] theorem ins1_cons {le : α → α → Bool} {a b : α} {r : List α} : ins1 le a (b :: r) = if le a b then a :: b :: r else b :: ins1 le a r := rfl
@[simp] theorem isort_nil {le : α → α → Bool} : isort le [] = [] := rfl
@[simp] theorem isort_cons {le : α → α → Bool} {a : α} {r : List α} : isort le (a :: r) = ins1 le a (isort le r) := rfl
@[simp] theorem fput_nil {f : Str} : fput f d [] = [(f, d)] := rfl
@[simp] theorem fput_cons {f g : Str} {r : List (Str × D)} : fput f d ((g, d2) :: r) = if g = f then (g, d) :: r else (g, d2) :: fput f d r := rfl
@[simp] theorem items_d {kvs : List (Key × D)} : (D.dk kvs).items? = none := rfl
end
end Pu
namespace Pu
open PySem L2 Lc Wk
theorem cut1 {α : Type} (x : α) (r : List α) : cutL (x :: r) (some 1) none = r := by
  unfold cutL
  simp [HT.sIx]
theorem ofString_inj {a b : String} (h : Str.ofString a = Str.ofString b) : a = b := by
  rw [Str.ofString_eq_toList, Str.ofString_eq_toList] at h
  injection h with h
  injection h with h
  apply String.toList_inj.mp
  generalize a.toList = x at h
  generalize b.toList = y at h
  induction x generalizing y with
  | nil => cases y with
    | nil => rfl
    | cons d y => cases h
  | cons c x ih => cases y with
    | nil => cases h
    | cons d y =>
      rw [List.map_cons, List.map_cons] at h
      injection h with h1 h2
      have h1 : c = d := Char.toNat_inj.mp h1
      subst h1
      rw [ih _ h2]
@[simp] theorem ofS_eq {a b : String} : (Str.ofString a = Str.ofString b) ↔ a = b := ⟨ofString_inj, fun h => h ▸ rfl⟩
@[simp] theorem ofS_beq {a b : String} : (Str.ofString a == Str.ofString b) = (a == b) := by
  rw [Bool.eq_iff_iff, beq_iff_eq, beq_iff_eq]; exact ofS_eq
@[simp] theorem strOk_ofString (s : String) : PyData.strOk (Str.ofString s) = true := by
  unfold PyData.strOk
  rw [Str.ofString_eq_toList, ← Array.all_toList, List.all_eq_true]
  intro c hc
  obtain ⟨d, _, rfl⟩ := List.mem_map.mp hc
  have := d.valid
  apply decide_eq_true
  show d.val.toNat < 0x110000
  unfold UInt32.isValidChar Nat.isValidChar at this
  omega
@[simp] theorem look_cons {f g : Str} {d : D} {r : List (Str × D)} : List.lookup f ((g, d) :: r) = if (f == g) = true then some d else List.lookup f r := by
  rw [List.lookup_cons]
  cases f == g <;> rfl
theorem wipe_get (ρ : List Sl) : ∀ (ws : List Nat) (j : Nat), (wipeE ρ ws)[j]? = if j ∈ ws then (if j < ρ.length then some .no else none) else ρ[j]?
  | [], j => by simp
  | i :: ws, j => by
    rw [wipe_cons, List.getElem?_set, wipe_get ρ ws j, wipeE_len]
    by_cases h : i = j
    · subst h
      simp
    · simp [h, Ne.symm h]
theorem back_get (ρ ρ' : List Sl) (hl : ρ.length = ρ'.length) : ∀ (ws : List Nat) (j : Nat), (backE ρ ρ' ws)[j]? = if j ∈ ws then ρ[j]? else ρ'[j]?
  | [], j => by simp
  | i :: ws, j => by
    rw [back_cons, List.getElem?_set, back_get ρ ρ' hl ws j, backE_len]
    by_cases h : i = j
    · subst h
      by_cases h2 : i < ρ'.length
      · have h3 : i < ρ.length := hl ▸ h2
        simp [h2, h3]
      · have h3 : ¬ i < ρ.length := hl ▸ h2
        simp [h2]
        omega
    · simp [h, Ne.symm h]
theorem back_wipe {ρ ρ' : List Sl} {ws : List Nat} (h : wipeE ρ' ws = wipeE ρ ws) : backE ρ ρ' ws = ρ := by
  have hl : ρ.length = ρ'.length := by rw [← wipeE_len ρ' ws, ← wipeE_len ρ ws, h]
  apply List.ext_getElem?
  intro j
  rw [back_get ρ ρ' hl]
  split
  · rfl
  · rename_i hj
    have e := congrArg (fun l : List Sl => l[j]?) h
    simp only [wipe_get, hj, if_false] at e
    exact e
theorem lcGo_map {α : Type} {ws : List Nat} {set : GT} {cond : EB} {elt : EE} {W : List Sl} {enc : α → D} {p : α → Bool} {g : α → D} : ∀ (xs : List α) (ρ : List Sl) (acc : List D), wipeE ρ ws = W →
    (∀ x ∈ xs, ∃ ρ1, set (enc x) W = some ρ1 ∧ wipeE ρ1 ws = W ∧ cond ρ1 = .ok (p x) ρ1 ∧ (p x = true → elt ρ1 = .ok (g x) ρ1)) →
    ∃ ρ', lcGo ws set cond elt (xs.map enc) ρ acc = .ok (acc ++ (xs.filter p).map g) ρ' ∧ wipeE ρ' ws = W
  | [], ρ, acc, hW, _ => ⟨ρ, by simp, hW⟩
  | x :: xs, ρ, acc, hW, h => by
    obtain ⟨ρ1, h1, h2, h3, h4⟩ := h x (List.mem_cons_self ..)
    rw [List.map_cons, lcGo_cons, hW, h1, kLcS_, h3]
    cases hp : p x with
    | true =>
      rw [kLcC_t, h4 hp, kLcY_]
      obtain ⟨ρ', e, hw⟩ := lcGo_map xs ρ1 (acc ++ [g x]) h2 (fun y hy => h y (List.mem_cons_of_mem _ hy))
      exact ⟨ρ', by rw [e]; simp [List.filter_cons, hp], hw⟩
    | false =>
      rw [kLcC_f]
      obtain ⟨ρ', e, hw⟩ := lcGo_map xs ρ1 acc h2 (fun y hy => h y (List.mem_cons_of_mem _ hy))
      exact ⟨ρ', by rw [e]; simp [List.filter_cons, hp], hw⟩
theorem lc_map {α : Type} {ws : List Nat} {set : GT} {cond : EB} {elt : EE} {ρ : List Sl} {enc : α → D} {p : α → Bool} {g : α → D} (xs : List α) (hn : noOw ρ ws = true) (hl : xs.length ≤ LIM)
    (h : ∀ x ∈ xs, ∃ ρ1, set (enc x) (wipeE ρ ws) = some ρ1 ∧ wipeE ρ1 ws = wipeE ρ ws ∧ cond ρ1 = .ok (p x) ρ1 ∧ (p x = true → elt ρ1 = .ok (g x) ρ1)) :
    kLc ws set cond elt (xs.map enc) ρ = .ok (.lst ((xs.filter p).map g)) ρ := by
  obtain ⟨ρ', e, hw⟩ := lcGo_map (p := p) (g := g) xs ρ [] rfl h
  rw [kLc_, hn, if_pos rfl, e, kLcE_, if_pos, back_wipe hw]
  · rfl
  · simp only [List.nil_append, List.length_map]
    exact Nat.le_trans (List.length_filter_le _ _) hl
/-- without a condition -/
theorem lc_map1 {α : Type} {ws : List Nat} {set : GT} {elt : EE} {ρ : List Sl} {enc : α → D} {g : α → D} (xs : List α) (hn : noOw ρ ws = true) (hl : xs.length ≤ LIM)
    (h : ∀ x ∈ xs, ∃ ρ1, set (enc x) (wipeE ρ ws) = some ρ1 ∧ wipeE ρ1 ws = wipeE ρ ws ∧ elt ρ1 = .ok (g x) ρ1) :
    kLc ws set bYes elt (xs.map enc) ρ = .ok (.lst (xs.map g)) ρ := by
  have := lc_map (p := fun _ => true) (cond := bYes) (g := g) xs hn hl fun x hx => by
    obtain ⟨ρ1, h1, h2, h3⟩ := h x hx
    exact ⟨ρ1, h1, h2, rfl, fun _ => h3⟩
  rw [this, List.filter_eq_self.mpr (fun _ _ => rfl)]
theorem bls_map {α : Type} (xs : List α) (g : α → Bool) : D.bls (xs.map fun x => .bl (g x)) = some (xs.map g) := by
  induction xs with
  | nil => rfl
  | cons x xs ih => simp [ih]
def letters : Str := "abcdefghijklmnopqrstuvwxyz"
def isWord (x : Str) : Bool := decide (1 ≤ x.length) && decide (x.length ≤ 8) && x.cps.toList.all fun c => decide (c ∈ letters.cps.toList)
theorem in_letters (c : Nat) : D.inD (.str ⟨#[c]⟩) (.str letters) = some (.bl (decide (c ∈ letters.cps.toList))) := rfl
theorem ev_is_word (x : Str) (h : x.length ≤ LIM) : f_is_word [.fz (.str x)] = .ok (.fz (.bl (isWord x))) [.no] := by
  have hl : D.lenD (.str x) = some (.int x.length) := if_pos h
  have hi : (D.str x).items? = some (x.cps.toList.map fun c => .str ⟨#[c]⟩) := rfl
  by_cases h1 : 1 ≤ x.length
  · by_cases h2 : x.length ≤ 8
    · have e : kLc [1] (gSet 1) bYes (eOp2 D.inD (oVar 1) (oV (eC (.str letters)))) (x.cps.toList.map fun c => .str ⟨#[c]⟩) [.fz (.str x), .no] = .ok (.lst (x.cps.toList.map fun c => .bl (decide (c ∈ letters.cps.toList)))) [.fz (.str x), .no] :=
        lc_map1 (g := fun c => .bl (decide (c ∈ letters.cps.toList))) _ (by simp) (by have : x.cps.toList.length = x.length := rfl; omega) fun c _ => ⟨_, rfl, by simp, by simp [in_letters]⟩
      have h1' : (1 : Int) ≤ x.length := by omega
      have h2' : (x.length : Int) ≤ 8 := by omega
      simp only [f_is_word, b_is_word]
      rw [show (Str.ofString "abcdefghijklmnopqrstuvwxyz") = letters from rfl]
      simp [Tg.sub, hl, h1', h2', hi, e, bls_map, isWord, h1, h2]
    · have h1' : (1 : Int) ≤ x.length := by omega
      have h2' : ¬ (x.length : Int) ≤ 8 := by omega
      simp [f_is_word, b_is_word, Tg.sub, hl, h1', h2', isWord, h1, h2]
  · have h1' : ¬ (1 : Int) ≤ x.length := by omega
    simp [f_is_word, b_is_word, Tg.sub, hl, h1', isWord, h1]
end Pu
namespace Pu
open PySem L2 Lc Wk
theorem ev_is_number_i (i : Int) : f_is_number [.fz (.int i)] = .ok (.fz (.bl true)) [.no] := by
  simp [f_is_number, b_is_number, Tg.sub]
theorem ev_is_among (i lo hi : Int)  : f_is_among [.fz (.int i), .fz (.int lo), .fz (.int hi)] = .ok (.fz (.bl (decide (lo ≤ i) && decide (i ≤ hi)))) [.no, .no, .no] := by
  by_cases h : lo ≤ i <;>  simp [f_is_among, b_is_among, ev_is_number_i, h]
theorem ev_is_price (i : Int)  : f_is_price [.fz (.int i)] = .ok (.fz (.bl (decide (0 ≤ i) && decide (i ≤ 20)))) [.no] := by
  simp [f_is_price, b_is_price, ev_is_among]
/-- two words, the first one less -/
structure Two (a b : Str) : Prop where
  wa : isWord a = true
  wb : isWord b = true
  lt : a.cps.toList < b.cps.toList
theorem ok_word {x : Str} (h : isWord x = true) : PyData.strOk x = true := by
  unfold isWord at h
  simp only [Bool.and_eq_true, List.all_eq_true, decide_eq_true_eq] at h
  unfold PyData.strOk
  rw [← Array.all_toList, List.all_eq_true]
  intro c hc
  have h1 := h.2 c hc
  have : ∀ c ∈ letters.cps.toList, decide (c < 0x110000) = true := by decide +kernel
  exact this c h1
theorem lim_word {x : Str} (h : isWord x = true) : x.length ≤ LIM := by
  unfold isWord at h
  simp only [Bool.and_eq_true, decide_eq_true_eq] at h
  have := h.1.2
  unfold LIM
  omega
section
variable {a b : Str} (h : Two a b)
include h
theorem Two.ne : a ≠ b := fun e => by
  subst e
  exact absurd h.lt (List.lt_irrefl _)
theorem Two.ab : (a = b) = False := eq_false h.ne
theorem Two.ba : (b = a) = False := eq_false (Ne.symm h.ne)
theorem Two.nlt : ¬ b.cps.toList < a.cps.toList := fun e => List.lt_irrefl _ (List.lt_trans h.lt e)
theorem ev_wa : f_is_word [.fz (.str a)] = .ok (.fz (.bl true)) [.no] := by rw [ev_is_word _ (lim_word h.wa), h.wa]
theorem ev_wb : f_is_word [.fz (.str b)] = .ok (.fz (.bl true)) [.no] := by rw [ev_is_word _ (lim_word h.wb), h.wb]
theorem ev_are_rising : f_are_rising [.fz (.tup [.str a, .str b])] = .ok (.fz (.bl true)) [.no] := by
  have := h.lt
  simp [f_are_rising, b_are_rising, cut1, this, LIM]
theorem ev_are_places : f_are_places [.fz (.tup [.str a, .str b])] = .ok (.fz (.bl true)) [.no] := by
  have h1 := ev_wa h
  have h2 := ev_wb h
  have h3 := ev_are_rising h
  simp [f_are_places, b_are_places, Tg.sub, h1, h2, h3, LIM]
theorem ev_place_a : f_is_place [.fz (.tup [.str a, .str b]), .fz (.str a)] = .ok (.fz (.bl true)) [.no, .no] := by
  have h1 := ok_word h.wa
  have h2 := ok_word h.wb
  simp [f_is_place, b_is_place, Tg.sub, h1, h2]
theorem ev_place_b : f_is_place [.fz (.tup [.str a, .str b]), .fz (.str b)] = .ok (.fz (.bl true)) [.no, .no] := by
  have h1 := ok_word h.wa
  have h2 := ok_word h.wb
  simp [f_is_place, b_is_place, Tg.sub, h1, h2]
theorem ev_jump_ab (i : Int) (hi : 0 ≤ i ∧ i ≤ 20) : f_is_jump [.fz (.tup [.str a, .str b]), .fz (.tup [.str a, .str b, .int i])] = .ok (.fz (.bl true)) [.no, .no] := by
  have h1 := ev_place_a h
  have h2 := ev_place_b h
  simp [f_is_jump, b_is_jump, Tg.sub, h1, h2, atI, ixN, ev_is_price, hi.1, hi.2]
theorem ev_jump_ba (i : Int) (hi : 0 ≤ i ∧ i ≤ 20) : f_is_jump [.fz (.tup [.str a, .str b]), .fz (.tup [.str b, .str a, .int i])] = .ok (.fz (.bl true)) [.no, .no] := by
  have h1 := ev_place_a h
  have h2 := ev_place_b h
  simp [f_is_jump, b_is_jump, Tg.sub, h1, h2, atI, ixN, ev_is_price, hi.1, hi.2]
theorem ev_jump_bb (i : Int) (hi : 0 ≤ i ∧ i ≤ 20) : f_is_jump [.fz (.tup [.str a, .str b]), .fz (.tup [.str b, .str b, .int i])] = .ok (.fz (.bl true)) [.no, .no] := by
  have h1 := ev_place_a h
  have h2 := ev_place_b h
  simp [f_is_jump, b_is_jump, Tg.sub, h1, h2, atI, ixN, ev_is_price, hi.1, hi.2]
end
end Pu
namespace Pu
open PySem L2 Lc Wk
abbrev J2 (a b : Str) : List D := [.tup [.str a, .str b, .int 2], .tup [.str b, .str a, .int 3]]
abbrev J3 (a b : Str) : List D := [.tup [.str a, .str b, .int 2], .tup [.str b, .str a, .int 3], .tup [.str b, .str b, .int 1]]
abbrev mkC (a b : Str) (js : List D) : D := .ins 0 [("places", .tup [.str a, .str b]), ("door", .str a), ("jumps", .tup js)]
abbrev view (a b : Str) : D := mkC a b (J2 a b)
abbrev L01 : D := .tup [.int 0, .int 1]
section
variable {a b : Str} (h : Two a b)
include h
theorem Two.qab : (a == b) = false := by simpa using h.ne
theorem Two.qba : (b == a) = false := by simpa using Ne.symm h.ne

theorem from_l : f_places_from [.fz (.str a), .fz (.lst (J2 a b)), .fz (.tup [])] = .ok (.fz (.lst [.str a, .str b])) [.no, .no, .no] := by
  have h1 := ok_word h.wa
  have h2 := ok_word h.wb
  have h3 := h.lt
  have h4 := h.ab
  have h5 := h.ba
  have h6 := h.nlt
  have h7 := h.qab
  have h8 := h.qba
  simp [f_places_from, b_places_from, pn_places_from, h1, h2, h3, h4, h5, h6, h7, h8, cut1, atI, ixN, LIM, Tg.sub, D.srtSet, Ls.dd, Ls.addK, kS, leS, v_wh]
theorem from_t : f_places_from [.fz (.str a), .fz (.tup (J2 a b)), .fz (.tup [])] = .ok (.fz (.lst [.str a, .str b])) [.no, .no, .no] := by
  have h1 := ok_word h.wa
  have h2 := ok_word h.wb
  have h3 := h.lt
  have h4 := h.ab
  have h5 := h.ba
  have h6 := h.nlt
  have h7 := h.qab
  have h8 := h.qba
  simp [f_places_from, b_places_from, pn_places_from, h1, h2, h3, h4, h5, h6, h7, h8, cut1, atI, ixN, LIM, Tg.sub, D.srtSet, Ls.dd, Ls.addK, kS, leS, v_wh]
theorem from_3 : f_places_from [.fz (.str a), .fz (.tup (J3 a b)), .fz (.tup [])] = .ok (.fz (.lst [.str a, .str b])) [.no, .no, .no] := by
  have h1 := ok_word h.wa
  have h2 := ok_word h.wb
  have h3 := h.lt
  have h4 := h.ab
  have h5 := h.ba
  have h6 := h.nlt
  have h7 := h.qab
  have h8 := h.qba
  simp [f_places_from, b_places_from, pn_places_from, h1, h2, h3, h4, h5, h6, h7, h8, cut1, atI, ixN, LIM, Tg.sub, D.srtSet, Ls.dd, Ls.addK, kS, leS, v_wh]
theorem init_l : f_Code___init__ [.ow (.ins 0 []), .fz (.tup [.str a, .str b]), .fz (.str a), .fz (.lst (J2 a b))] = .ok (.fz .non) [.ow (mkC a b (J2 a b)), .no, .no, .no] := by
  have h1 := ok_word h.wa
  have h2 := ok_word h.wb
  have h3 := h.lt
  have h4 := h.ab
  have h5 := h.ba
  have h6 := h.nlt
  have h7 := h.qab
  have h8 := h.qba
  have u0 := ev_are_places h
  have u1 := ev_place_a h
  have u2 := ev_jump_ab h
  have u3 := ev_jump_ba h
  have u4 := ev_jump_bb h
  have u5 := from_l h
  have u6 := from_t h
  have u7 := from_3 h
  simp [f_Code___init__, b_Code___init__, pn_Code___init__, h1, h2, h3, h4, h5, h6, h7, h8, cut1, atI, ixN, LIM, Tg.sub, u0, u1, u2, u3, u4, u5, u6, u7]
theorem init_t : f_Code___init__ [.ow (.ins 0 []), .fz (.tup [.str a, .str b]), .fz (.str a), .fz (.tup (J2 a b))] = .ok (.fz .non) [.ow (mkC a b (J2 a b)), .no, .no, .no] := by
  have h1 := ok_word h.wa
  have h2 := ok_word h.wb
  have h3 := h.lt
  have h4 := h.ab
  have h5 := h.ba
  have h6 := h.nlt
  have h7 := h.qab
  have h8 := h.qba
  have u0 := ev_are_places h
  have u1 := ev_place_a h
  have u2 := ev_jump_ab h
  have u3 := ev_jump_ba h
  have u4 := ev_jump_bb h
  have u5 := from_l h
  have u6 := from_t h
  have u7 := from_3 h
  simp [f_Code___init__, b_Code___init__, pn_Code___init__, h1, h2, h3, h4, h5, h6, h7, h8, cut1, atI, ixN, LIM, Tg.sub, u0, u1, u2, u3, u4, u5, u6, u7]
theorem init_3 : f_Code___init__ [.ow (.ins 0 []), .fz (.tup [.str a, .str b]), .fz (.str a), .fz (.tup (J3 a b))] = .ok (.fz .non) [.ow (mkC a b (J3 a b)), .no, .no, .no] := by
  have h1 := ok_word h.wa
  have h2 := ok_word h.wb
  have h3 := h.lt
  have h4 := h.ab
  have h5 := h.ba
  have h6 := h.nlt
  have h7 := h.qab
  have h8 := h.qba
  have u0 := ev_are_places h
  have u1 := ev_place_a h
  have u2 := ev_jump_ab h
  have u3 := ev_jump_ba h
  have u4 := ev_jump_bb h
  have u5 := from_l h
  have u6 := from_t h
  have u7 := from_3 h
  simp [f_Code___init__, b_Code___init__, pn_Code___init__, h1, h2, h3, h4, h5, h6, h7, h8, cut1, atI, ixN, LIM, Tg.sub, u0, u1, u2, u3, u4, u5, u6, u7]
theorem need_3 : f_Code_need_jump [.fz (mkC a b (J3 a b)), .fz (.int 2)] = .ok (.fz .non) [.no, .no] := by
  have h1 := ok_word h.wa
  have h2 := ok_word h.wb
  have h3 := h.lt
  have h4 := h.ab
  have h5 := h.ba
  have h6 := h.nlt
  have h7 := h.qab
  have h8 := h.qba
  simp [f_Code_need_jump, b_Code_need_jump, pn_Code_need_jump, h1, h2, h3, h4, h5, h6, h7, h8, cut1, atI, ixN, LIM, Tg.sub, ev_is_among]
theorem need_0 : f_Code_need_jump [.fz (view a b), .fz (.int 0)] = .ok (.fz .non) [.no, .no] := by
  have h1 := ok_word h.wa
  have h2 := ok_word h.wb
  have h3 := h.lt
  have h4 := h.ab
  have h5 := h.ba
  have h6 := h.nlt
  have h7 := h.qab
  have h8 := h.qba
  simp [f_Code_need_jump, b_Code_need_jump, pn_Code_need_jump, h1, h2, h3, h4, h5, h6, h7, h8, cut1, atI, ixN, LIM, Tg.sub, ev_is_among]
theorem with_ : f_Code_with_jump [.fz (view a b), .fz (.tup [.str b, .str b, .int 1])] = .ok (.fz (mkC a b (J3 a b))) [.no, .no] := by
  have h1 := ok_word h.wa
  have h2 := ok_word h.wb
  have h3 := h.lt
  have h4 := h.ab
  have h5 := h.ba
  have h6 := h.nlt
  have h7 := h.qab
  have h8 := h.qba
  have u0 := ev_jump_bb h
  have u1 := init_3 h
  simp [f_Code_with_jump, b_Code_with_jump, pn_Code_with_jump, h1, h2, h3, h4, h5, h6, h7, h8, cut1, atI, ixN, LIM, Tg.sub, u0, u1]
theorem without_ : f_Code_without_jump [.fz (mkC a b (J3 a b)), .fz (.int 2)] = .ok (.fz (view a b)) [.no, .no] := by
  have h1 := ok_word h.wa
  have h2 := ok_word h.wb
  have h3 := h.lt
  have h4 := h.ab
  have h5 := h.ba
  have h6 := h.nlt
  have h7 := h.qab
  have h8 := h.qba
  have u0 := need_3 h
  have u1 := init_t h
  simp [f_Code_without_jump, b_Code_without_jump, pn_Code_without_jump, h1, h2, h3, h4, h5, h6, h7, h8, cut1, atI, ixN, LIM, Tg.sub, cutL, HT.sIx, u0, u1]
theorem priced_ : f_Code_priced [.fz (view a b), .fz (.int 0), .fz (.int 2)] = .ok (.fz (view a b)) [.no, .no, .no] := by
  have h1 := ok_word h.wa
  have h2 := ok_word h.wb
  have h3 := h.lt
  have h4 := h.ab
  have h5 := h.ba
  have h6 := h.nlt
  have h7 := h.qab
  have h8 := h.qba
  have u0 := need_0 h
  have u1 := init_t h
  simp [f_Code_priced, b_Code_priced, pn_Code_priced, h1, h2, h3, h4, h5, h6, h7, h8, cut1, atI, ixN, LIM, Tg.sub, cutL, HT.sIx, ev_is_price, u0, u1]
theorem eq_ : f_Code___eq__ [.fz (view a b), .fz (view a b)] = .ok (.fz (.bl true)) [.no, .no] := by
  have h1 := ok_word h.wa
  have h2 := ok_word h.wb
  have h3 := h.lt
  have h4 := h.ab
  have h5 := h.ba
  have h6 := h.nlt
  have h7 := h.qab
  have h8 := h.qba
  simp [f_Code___eq__, b_Code___eq__, pn_Code___eq__, h1, h2, h3, h4, h5, h6, h7, h8, cut1, atI, ixN, LIM, Tg.sub, isiD, D.tg, tgs, List.range, List.range.loop]
theorem lf2 : f_loops_from 13 [.fz (view a b), .fz (.tup [.int 0, .int 1]), .fz (.tup [.str a, .str b])] = .ok (.fz (.lst [.tup [.int 0, .int 1]])) [.no, .no, .no] := by
  have h1 := ok_word h.wa
  have h2 := ok_word h.wb
  have h3 := h.lt
  have h4 := h.ab
  have h5 := h.ba
  have h6 := h.nlt
  have h7 := h.qab
  have h8 := h.qba
  simp [f_loops_from, b_loops_from, pn_loops_from, h1, h2, h3, h4, h5, h6, h7, h8, cut1, atI, ixN, LIM, Tg.sub]
theorem lf1 : f_loops_from 14 [.fz (view a b), .fz (.tup [.int 0]), .fz (.tup [.str a])] = .ok (.ow (.lst [.tup [.int 0, .int 1]])) [.no, .no, .no] := by
  have h1 := ok_word h.wa
  have h2 := ok_word h.wb
  have h3 := h.lt
  have h4 := h.ab
  have h5 := h.ba
  have h6 := h.nlt
  have h7 := h.qab
  have h8 := h.qba
  have u1 := lf2 h
  rw [f_loops_from]
  simp [b_loops_from, pn_loops_from, h1, h2, h3, h4, h5, h6, h7, h8, cut1, atI, ixN, LIM, Tg.sub, u1]
theorem lf0 : f_loops_from 14 [.fz (view a b), .fz (.tup [.int 1]), .fz (.tup [.str b])] = .ok (.ow (.lst [])) [.no, .no, .no] := by
  have h1 := ok_word h.wa
  have h2 := ok_word h.wb
  have h3 := h.lt
  have h4 := h.ab
  have h5 := h.ba
  have h6 := h.nlt
  have h7 := h.qab
  have h8 := h.qba
  rw [f_loops_from]
  simp [b_loops_from, pn_loops_from, h1, h2, h3, h4, h5, h6, h7, h8, cut1, atI, ixN, LIM, Tg.sub]
end
end Pu
namespace Pu
open PySem L2 Lc Wk
@[simp] theorem strs_t {x ds : List D} : D.strs (.tup x :: ds) = none := rfl
@[simp] theorem strs_i {x : Int} {ds : List D} : D.strs (.int x :: ds) = none := rfl
section
variable {a b : Str} (h : Two a b)
include h

theorem loops_ : f_loops [.fz (view a b)] = .ok (.fz (.tup [.tup [.int 0, .int 1]])) [.no] := by
  have h1 := ok_word h.wa
  have h2 := ok_word h.wb
  have h3 := h.lt
  have h4 := h.ab
  have h5 := h.ba
  have h6 := h.nlt
  have h7 := h.qab
  have h8 := h.qba
  have u0 := lf1 h
  have u1 := lf0 h
  simp [f_loops, b_loops, pn_loops, h1, h2, h3, h4, h5, h6, h7, h8, cut1, atI, ixN, LIM, Tg.sub, D.srtD, srtO, D.rows, leR, leS, leI, u0, u1]
theorem nums_l : f_are_numbers [.fz (view a b), .fz (.tup [.int 0, .int 1])] = .ok (.fz (.bl true)) [.no, .no] := by
  have h1 := ok_word h.wa
  have h2 := ok_word h.wb
  have h3 := h.lt
  have h4 := h.ab
  have h5 := h.ba
  have h6 := h.nlt
  have h7 := h.qab
  have h8 := h.qba
  simp [f_are_numbers, b_are_numbers, pn_are_numbers, h1, h2, h3, h4, h5, h6, h7, h8, cut1, atI, ixN, LIM, Tg.sub, ev_is_among]
theorem nums_0 : f_are_numbers [.fz (view a b), .fz (.tup [.int 0])] = .ok (.fz (.bl true)) [.no, .no] := by
  have h1 := ok_word h.wa
  have h2 := ok_word h.wb
  have h3 := h.lt
  have h4 := h.ab
  have h5 := h.ba
  have h6 := h.nlt
  have h7 := h.qab
  have h8 := h.qba
  simp [f_are_numbers, b_are_numbers, pn_are_numbers, h1, h2, h3, h4, h5, h6, h7, h8, cut1, atI, ixN, LIM, Tg.sub, ev_is_among]
theorem nums_1 : f_are_numbers [.fz (view a b), .fz (.tup [.int 1])] = .ok (.fz (.bl true)) [.no, .no] := by
  have h1 := ok_word h.wa
  have h2 := ok_word h.wb
  have h3 := h.lt
  have h4 := h.ab
  have h5 := h.ba
  have h6 := h.nlt
  have h7 := h.qab
  have h8 := h.qba
  simp [f_are_numbers, b_are_numbers, pn_are_numbers, h1, h2, h3, h4, h5, h6, h7, h8, cut1, atI, ixN, LIM, Tg.sub, ev_is_among]
theorem nums_e : f_are_numbers [.fz (view a b), .fz (.tup [])] = .ok (.fz (.bl true)) [.no, .no] := by
  have h1 := ok_word h.wa
  have h2 := ok_word h.wb
  have h3 := h.lt
  have h4 := h.ab
  have h5 := h.ba
  have h6 := h.nlt
  have h7 := h.qab
  have h8 := h.qba
  simp [f_are_numbers, b_are_numbers, pn_are_numbers, h1, h2, h3, h4, h5, h6, h7, h8, cut1, atI, ixN, LIM, Tg.sub, ev_is_among]
theorem go_l : f_go_on [.fz (view a b), .fz (.tup [.int 0, .int 1])] = .ok (.fz (.bl true)) [.no, .no] := by
  have h1 := ok_word h.wa
  have h2 := ok_word h.wb
  have h3 := h.lt
  have h4 := h.ab
  have h5 := h.ba
  have h6 := h.nlt
  have h7 := h.qab
  have h8 := h.qba
  simp [f_go_on, b_go_on, pn_go_on, h1, h2, h3, h4, h5, h6, h7, h8, cut1, atI, ixN, LIM, Tg.sub]
theorem go_0 : f_go_on [.fz (view a b), .fz (.tup [.int 0])] = .ok (.fz (.bl true)) [.no, .no] := by
  have h1 := ok_word h.wa
  have h2 := ok_word h.wb
  have h3 := h.lt
  have h4 := h.ab
  have h5 := h.ba
  have h6 := h.nlt
  have h7 := h.qab
  have h8 := h.qba
  simp [f_go_on, b_go_on, pn_go_on, h1, h2, h3, h4, h5, h6, h7, h8, cut1, atI, ixN, LIM, Tg.sub]
theorem go_1 : f_go_on [.fz (view a b), .fz (.tup [.int 1])] = .ok (.fz (.bl true)) [.no, .no] := by
  have h1 := ok_word h.wa
  have h2 := ok_word h.wb
  have h3 := h.lt
  have h4 := h.ab
  have h5 := h.ba
  have h6 := h.nlt
  have h7 := h.qab
  have h8 := h.qba
  simp [f_go_on, b_go_on, pn_go_on, h1, h2, h3, h4, h5, h6, h7, h8, cut1, atI, ixN, LIM, Tg.sub]
theorem starts_l : f_starts_of [.fz (view a b), .fz (.tup [.int 0, .int 1])] = .ok (.fz (.lst [.str a, .str b])) [.no, .no] := by
  have h1 := ok_word h.wa
  have h2 := ok_word h.wb
  have h3 := h.lt
  have h4 := h.ab
  have h5 := h.ba
  have h6 := h.nlt
  have h7 := h.qab
  have h8 := h.qba
  simp [f_starts_of, b_starts_of, pn_starts_of, h1, h2, h3, h4, h5, h6, h7, h8, cut1, atI, ixN, LIM, Tg.sub]
theorem starts_0 : f_starts_of [.fz (view a b), .fz (.tup [.int 0])] = .ok (.fz (.lst [.str a])) [.no, .no] := by
  have h1 := ok_word h.wa
  have h2 := ok_word h.wb
  have h3 := h.lt
  have h4 := h.ab
  have h5 := h.ba
  have h6 := h.nlt
  have h7 := h.qab
  have h8 := h.qba
  simp [f_starts_of, b_starts_of, pn_starts_of, h1, h2, h3, h4, h5, h6, h7, h8, cut1, atI, ixN, LIM, Tg.sub]
theorem starts_1 : f_starts_of [.fz (view a b), .fz (.tup [.int 1])] = .ok (.fz (.lst [.str b])) [.no, .no] := by
  have h1 := ok_word h.wa
  have h2 := ok_word h.wb
  have h3 := h.lt
  have h4 := h.ab
  have h5 := h.ba
  have h6 := h.nlt
  have h7 := h.qab
  have h8 := h.qba
  simp [f_starts_of, b_starts_of, pn_starts_of, h1, h2, h3, h4, h5, h6, h7, h8, cut1, atI, ixN, LIM, Tg.sub]
theorem is_loop_ : f_is_loop [.fz (view a b), .fz (.tup [.int 0, .int 1])] = .ok (.fz (.bl true)) [.no, .no] := by
  have h1 := ok_word h.wa
  have h2 := ok_word h.wb
  have h3 := h.lt
  have h4 := h.ab
  have h5 := h.ba
  have h6 := h.nlt
  have h7 := h.qab
  have h8 := h.qba
  have u0 := nums_l h
  have u1 := starts_l h
  have u2 := go_l h
  simp [f_is_loop, b_is_loop, pn_is_loop, h1, h2, h3, h4, h5, h6, h7, h8, cut1, atI, ixN, LIM, Tg.sub, minF, Int.min_def, D.lenSet, keysOf, Ls.dd, Ls.addK, u0, u1, u2]
theorem need_loop_ : f_need_loop [.fz (view a b), .fz (.tup [.int 0, .int 1])] = .ok (.fz .non) [.no, .no] := by
  have h1 := ok_word h.wa
  have h2 := ok_word h.wb
  have h3 := h.lt
  have h4 := h.ab
  have h5 := h.ba
  have h6 := h.nlt
  have h7 := h.qab
  have h8 := h.qba
  have u0 := is_loop_ h
  simp [f_need_loop, b_need_loop, pn_need_loop, h1, h2, h3, h4, h5, h6, h7, h8, cut1, atI, ixN, LIM, Tg.sub, u0]
theorem places_of_ : f_places_of [.fz (view a b), .fz (.tup [.int 0, .int 1])] = .ok (.fz (.tup [.str a, .str b])) [.no, .no] := by
  have h1 := ok_word h.wa
  have h2 := ok_word h.wb
  have h3 := h.lt
  have h4 := h.ab
  have h5 := h.ba
  have h6 := h.nlt
  have h7 := h.qab
  have h8 := h.qba
  have u0 := need_loop_ h
  have u1 := starts_l h
  simp [f_places_of, b_places_of, pn_places_of, h1, h2, h3, h4, h5, h6, h7, h8, cut1, atI, ixN, LIM, Tg.sub, D.srtD, srtO, D.rows, leR, leS, leI, u0, u1]
theorem is_way_ : f_is_way [.fz (view a b), .fz (.str a), .fz (.str b), .fz (.tup [.int 0])] = .ok (.fz (.bl true)) [.no, .no, .no, .no] := by
  have h1 := ok_word h.wa
  have h2 := ok_word h.wb
  have h3 := h.lt
  have h4 := h.ab
  have h5 := h.ba
  have h6 := h.nlt
  have h7 := h.qab
  have h8 := h.qba
  have u0 := nums_0 h
  have u1 := starts_0 h
  have u2 := go_0 h
  simp [f_is_way, b_is_way, pn_is_way, h1, h2, h3, h4, h5, h6, h7, h8, cut1, atI, ixN, LIM, Tg.sub, D.lenSet, keysOf, Ls.dd, Ls.addK, u0, u1, u2]
theorem ways_ : f_ways_to [.fz (view a b), .fz (.lst [.str a, .str b])] = .ok (.fz (.dk [(.inr a, .tup [])])) [.no, .no] := by
  have h1 := ok_word h.wa
  have h2 := ok_word h.wb
  have h3 := h.lt
  have h4 := h.ab
  have h5 := h.ba
  have h6 := h.nlt
  have h7 := h.qab
  have h8 := h.qba
  simp [f_ways_to, b_ways_to, pn_ways_to, h1, h2, h3, h4, h5, h6, h7, h8, cut1, atI, ixN, LIM, Tg.sub, v_wh, kput]
theorem door_so_ : f_door_so [.fz (view a b), .fz (.tup [.int 0, .int 1])] = .ok (.fz (.str a)) [.no, .no] := by
  have h1 := ok_word h.wa
  have h2 := ok_word h.wb
  have h3 := h.lt
  have h4 := h.ab
  have h5 := h.ba
  have h6 := h.nlt
  have h7 := h.qab
  have h8 := h.qba
  have u0 := starts_l h
  have u1 := ways_ h
  simp [f_door_so, b_door_so, pn_door_so, h1, h2, h3, h4, h5, h6, h7, h8, cut1, atI, ixN, LIM, Tg.sub, listD, u0, u1]
theorem door_of_ : f_door_of [.fz (view a b), .fz (.tup [.int 0, .int 1])] = .ok (.fz (.str a)) [.no, .no] := by
  have h1 := ok_word h.wa
  have h2 := ok_word h.wb
  have h3 := h.lt
  have h4 := h.ab
  have h5 := h.ba
  have h6 := h.nlt
  have h7 := h.qab
  have h8 := h.qba
  have u0 := need_loop_ h
  have u1 := door_so_ h
  simp [f_door_of, b_door_of, pn_door_of, h1, h2, h3, h4, h5, h6, h7, h8, cut1, atI, ixN, LIM, Tg.sub, u0, u1]
theorem one_door_ : f_one_door [.fz (view a b)] = .ok (.fz (.bl true)) [.no] := by
  have h1 := ok_word h.wa
  have h2 := ok_word h.wb
  have h3 := h.lt
  have h4 := h.ab
  have h5 := h.ba
  have h6 := h.nlt
  have h7 := h.qab
  have h8 := h.qba
  have u0 := loops_ h
  have u1 := door_so_ h
  simp [f_one_door, b_one_door, pn_one_door, h1, h2, h3, h4, h5, h6, h7, h8, cut1, atI, ixN, LIM, Tg.sub, D.isN, u0, u1]
end
end Pu
namespace Pu
open PySem L2 Lc Wk
section
variable {a b : Str} (h : Two a b)
include h

theorem ahead_0a : f_lumps_ahead [.fz (view a b), .fz (.dk [(.inr a, .str a), (.inr b, .str b)]), .fz (.str a)] = .ok (.fz (.lst [.str b])) [.no, .no, .no] := by
  have h1 := ok_word h.wa
  have h2 := ok_word h.wb
  have h3 := h.lt
  have h4 := h.ab
  have h5 := h.ba
  have h6 := h.nlt
  have h7 := h.qab
  have h8 := h.qba
  simp [f_lumps_ahead, b_lumps_ahead, pn_lumps_ahead, h1, h2, h3, h4, h5, h6, h7, h8, cut1, atI, ixN, LIM, Tg.sub, D.srtSet, Ls.dd, Ls.addK, kS, leS, v_wh]
theorem ahead_0b : f_lumps_ahead [.fz (view a b), .fz (.dk [(.inr a, .str a), (.inr b, .str b)]), .fz (.str b)] = .ok (.fz (.lst [.str a])) [.no, .no, .no] := by
  have h1 := ok_word h.wa
  have h2 := ok_word h.wb
  have h3 := h.lt
  have h4 := h.ab
  have h5 := h.ba
  have h6 := h.nlt
  have h7 := h.qab
  have h8 := h.qba
  simp [f_lumps_ahead, b_lumps_ahead, pn_lumps_ahead, h1, h2, h3, h4, h5, h6, h7, h8, cut1, atI, ixN, LIM, Tg.sub, D.srtSet, Ls.dd, Ls.addK, kS, leS, v_wh]
theorem ahead_1a : f_lumps_ahead [.fz (view a b), .fz (.dk [(.inr a, .str a), (.inr b, .str a)]), .fz (.str a)] = .ok (.fz (.lst [])) [.no, .no, .no] := by
  have h1 := ok_word h.wa
  have h2 := ok_word h.wb
  have h3 := h.lt
  have h4 := h.ab
  have h5 := h.ba
  have h6 := h.nlt
  have h7 := h.qab
  have h8 := h.qba
  simp [f_lumps_ahead, b_lumps_ahead, pn_lumps_ahead, h1, h2, h3, h4, h5, h6, h7, h8, cut1, atI, ixN, LIM, Tg.sub, D.srtSet, Ls.dd, Ls.addK, kS, leS, v_wh]
theorem put_0 : f_put_into [.fz (.dk [(.inr a, .str a), (.inr b, .str b)]), .fz (.str b), .fz (.str a)] = .ok (.fz (.dk [(.inr a, .str a), (.inr b, .str a)])) [.no, .no, .no] := by
  have h1 := ok_word h.wa
  have h2 := ok_word h.wb
  have h3 := h.lt
  have h4 := h.ab
  have h5 := h.ba
  have h6 := h.nlt
  have h7 := h.qab
  have h8 := h.qba
  simp [f_put_into, b_put_into, pn_put_into, h1, h2, h3, h4, h5, h6, h7, h8, cut1, atI, ixN, LIM, Tg.sub, kput]
theorem fold_ : f_foldings_of [.fz (view a b)] = .ok (.fz (.tup [.tup [.str b, .str a]])) [.no] := by
  have h1 := ok_word h.wa
  have h2 := ok_word h.wb
  have h3 := h.lt
  have h4 := h.ab
  have h5 := h.ba
  have h6 := h.nlt
  have h7 := h.qab
  have h8 := h.qba
  have u0 := ahead_0a h
  have u1 := ahead_0b h
  have u2 := ahead_1a h
  have u3 := put_0 h
  simp [f_foldings_of, b_foldings_of, pn_foldings_of, h1, h2, h3, h4, h5, h6, h7, h8, cut1, atI, ixN, LIM, Tg.sub, D.srtSet, Ls.dd, Ls.addK, kS, leS, v_wh, kput, listVals, u0, u1, u2, u3]
theorem paper_ : f_doors_paper [.fz (view a b)] = .ok (.fz (.tup [.str "one", .tup [.tup [.str b, .str a]]])) [.no] := by
  have h1 := ok_word h.wa
  have h2 := ok_word h.wb
  have h3 := h.lt
  have h4 := h.ab
  have h5 := h.ba
  have h6 := h.nlt
  have h7 := h.qab
  have h8 := h.qba
  have u0 := loops_ h
  have u1 := starts_l h
  have u2 := ways_ h
  have u3 := fold_ h
  simp [f_doors_paper, b_doors_paper, pn_doors_paper, h1, h2, h3, h4, h5, h6, h7, h8, cut1, atI, ixN, LIM, Tg.sub, u0, u1, u2, u3]
theorem need_door : f_need_one_door [.fz (view a b)] = .ok (.fz .non) [.no] := by
  have h1 := ok_word h.wa
  have h2 := ok_word h.wb
  have h3 := h.lt
  have h4 := h.ab
  have h5 := h.ba
  have h6 := h.nlt
  have h7 := h.qab
  have h8 := h.qba
  have u0 := paper_ h
  simp [f_need_one_door, b_need_one_door, pn_need_one_door, h1, h2, h3, h4, h5, h6, h7, h8, cut1, atI, ixN, LIM, Tg.sub, u0]
theorem pl_la : f_is_place [.fz (.lst [.str a, .str b]), .fz (.str a)] = .ok (.fz (.bl true)) [.no, .no] := by
  have h1 := ok_word h.wa
  have h2 := ok_word h.wb
  have h3 := h.lt
  have h4 := h.ab
  have h5 := h.ba
  have h6 := h.nlt
  have h7 := h.qab
  have h8 := h.qba
  simp [f_is_place, b_is_place, pn_is_place, h1, h2, h3, h4, h5, h6, h7, h8, cut1, atI, ixN, LIM, Tg.sub]
theorem pl_lb : f_is_place [.fz (.lst [.str a, .str b]), .fz (.str b)] = .ok (.fz (.bl true)) [.no, .no] := by
  have h1 := ok_word h.wa
  have h2 := ok_word h.wb
  have h3 := h.lt
  have h4 := h.ab
  have h5 := h.ba
  have h6 := h.nlt
  have h7 := h.qab
  have h8 := h.qba
  simp [f_is_place, b_is_place, pn_is_place, h1, h2, h3, h4, h5, h6, h7, h8, cut1, atI, ixN, LIM, Tg.sub]
theorem check_f : f_check_foldings [.fz (view a b), .fz (.tup [.tup [.str b, .str a]])] = .ok (.fz .non) [.no, .no] := by
  have h1 := ok_word h.wa
  have h2 := ok_word h.wb
  have h3 := h.lt
  have h4 := h.ab
  have h5 := h.ba
  have h6 := h.nlt
  have h7 := h.qab
  have h8 := h.qba
  have u0 := ahead_0b h
  have u1 := put_0 h
  have u2 := pl_la h
  have u3 := pl_lb h
  simp [f_check_foldings, b_check_foldings, pn_check_foldings, h1, h2, h3, h4, h5, h6, h7, h8, cut1, atI, ixN, LIM, Tg.sub, D.srtSet, Ls.dd, Ls.addK, kS, leS, v_wh, kput, listVals, D.lenSet, keysOf, u0, u1, u2, u3]
theorem check_d : f_check_doors [.fz (view a b), .fz (.tup [.str "one", .tup [.tup [.str b, .str a]]])] = .ok (.fz (.str "one")) [.no, .no] := by
  have h1 := ok_word h.wa
  have h2 := ok_word h.wb
  have h3 := h.lt
  have h4 := h.ab
  have h5 := h.ba
  have h6 := h.nlt
  have h7 := h.qab
  have h8 := h.qba
  have u0 := check_f h
  simp [f_check_doors, b_check_doors, pn_check_doors, h1, h2, h3, h4, h5, h6, h7, h8, cut1, atI, ixN, LIM, Tg.sub, u0]
end
end Pu
namespace Pu
open PySem L2 Lc Wk
theorem hits_full : f_hits [.fz (.tup [.tup [.int 0, .int 1]]), .fz (.dk [(.inl 0, .int 2), (.inl 1, .int 3)])] = .ok (.fz (.tup [.int 2, .tup [.int 0]])) [.no, .no] := by kernel_rfl
theorem hits_one : f_hits [.fz (.lst [.tup [.int 1]]), .fz (.dk [(.inl 1, .int 3)])] = .ok (.fz (.tup [.int 3, .tup [.int 1]])) [.no, .no] := by kernel_rfl
theorem packed_full : f_packed [.fz (.tup [.tup [.int 0, .int 1]]), .fz (.dk [(.inl 0, .int 2), (.inl 1, .int 3)])] = .ok (.fz (.tup [.tup [.tup [.int 0, .int 1], .int 2]])) [.no, .no] := by kernel_rfl
theorem packs_full : f_are_packed [.fz (.tup [.tup [.tup [.int 0, .int 1], .int 2]]), .fz (.dk [(.inl 0, .int 2), (.inl 1, .int 3)])] = .ok (.fz (.bl true)) [.no, .no] := by kernel_rfl
theorem ris_l : f_are_rising [.fz (.lst [.tup [.int 0, .int 1]])] = .ok (.fz (.bl true)) [.no] := by kernel_rfl
theorem ris_01 : f_are_rising [.fz (.tup [.int 0, .int 1])] = .ok (.fz (.bl true)) [.no] := by kernel_rfl
theorem ris_0 : f_are_rising [.fz (.tup [.int 0])] = .ok (.fz (.bl true)) [.no] := by kernel_rfl
theorem ris_1 : f_are_rising [.fz (.tup [.int 1])] = .ok (.fz (.bl true)) [.no] := by kernel_rfl
section
variable {a b : Str} (h : Two a b)
include h

theorem lot_0 : f_is_lot [.fz (view a b), .fz (.tup [.int 0])] = .ok (.fz (.bl true)) [.no, .no] := by
  have h1 := ok_word h.wa
  have h2 := ok_word h.wb
  have h3 := h.lt
  have h4 := h.ab
  have h5 := h.ba
  have h6 := h.nlt
  have h7 := h.qab
  have h8 := h.qba
  have u0 := nums_0 h
  simp [f_is_lot, b_is_lot, pn_is_lot, h1, h2, h3, h4, h5, h6, h7, h8, cut1, atI, ixN, LIM, Tg.sub, ris_01, ris_0, ris_1, u0]
theorem lot_1 : f_is_lot [.fz (view a b), .fz (.tup [.int 1])] = .ok (.fz (.bl true)) [.no, .no] := by
  have h1 := ok_word h.wa
  have h2 := ok_word h.wb
  have h3 := h.lt
  have h4 := h.ab
  have h5 := h.ba
  have h6 := h.nlt
  have h7 := h.qab
  have h8 := h.qba
  have u0 := nums_1 h
  simp [f_is_lot, b_is_lot, pn_is_lot, h1, h2, h3, h4, h5, h6, h7, h8, cut1, atI, ixN, LIM, Tg.sub, ris_01, ris_0, ris_1, u0]
theorem lot_l : f_is_lot [.fz (view a b), .fz (.tup [.int 0, .int 1])] = .ok (.fz (.bl true)) [.no, .no] := by
  have h1 := ok_word h.wa
  have h2 := ok_word h.wb
  have h3 := h.lt
  have h4 := h.ab
  have h5 := h.ba
  have h6 := h.nlt
  have h7 := h.qab
  have h8 := h.qba
  have u0 := nums_l h
  simp [f_is_lot, b_is_lot, pn_is_lot, h1, h2, h3, h4, h5, h6, h7, h8, cut1, atI, ixN, LIM, Tg.sub, ris_01, ris_0, ris_1, u0]
theorem needl_0 : f_need_lot [.fz (view a b), .fz (.tup [.int 0])] = .ok (.fz .non) [.no, .no] := by
  have h1 := ok_word h.wa
  have h2 := ok_word h.wb
  have h3 := h.lt
  have h4 := h.ab
  have h5 := h.ba
  have h6 := h.nlt
  have h7 := h.qab
  have h8 := h.qba
  have u0 := lot_0 h
  simp [f_need_lot, b_need_lot, pn_need_lot, h1, h2, h3, h4, h5, h6, h7, h8, cut1, atI, ixN, LIM, Tg.sub, u0]
theorem needl_1 : f_need_lot [.fz (view a b), .fz (.tup [.int 1])] = .ok (.fz .non) [.no, .no] := by
  have h1 := ok_word h.wa
  have h2 := ok_word h.wb
  have h3 := h.lt
  have h4 := h.ab
  have h5 := h.ba
  have h6 := h.nlt
  have h7 := h.qab
  have h8 := h.qba
  have u0 := lot_1 h
  simp [f_need_lot, b_need_lot, pn_need_lot, h1, h2, h3, h4, h5, h6, h7, h8, cut1, atI, ixN, LIM, Tg.sub, u0]
theorem needl_l : f_need_lot [.fz (view a b), .fz (.tup [.int 0, .int 1])] = .ok (.fz .non) [.no, .no] := by
  have h1 := ok_word h.wa
  have h2 := ok_word h.wb
  have h3 := h.lt
  have h4 := h.ab
  have h5 := h.ba
  have h6 := h.nlt
  have h7 := h.qab
  have h8 := h.qba
  have u0 := lot_l h
  simp [f_need_lot, b_need_lot, pn_need_lot, h1, h2, h3, h4, h5, h6, h7, h8, cut1, atI, ixN, LIM, Tg.sub, u0]
theorem meets_0 : f_meets_all [.fz (view a b), .fz (.tup [.int 0])] = .ok (.fz (.bl true)) [.no, .no] := by
  have h1 := ok_word h.wa
  have h2 := ok_word h.wb
  have h3 := h.lt
  have h4 := h.ab
  have h5 := h.ba
  have h6 := h.nlt
  have h7 := h.qab
  have h8 := h.qba
  have u0 := loops_ h
  simp [f_meets_all, b_meets_all, pn_meets_all, h1, h2, h3, h4, h5, h6, h7, h8, cut1, atI, ixN, LIM, Tg.sub, u0]
theorem cut_0 : f_is_cut [.fz (view a b), .fz (.tup [.int 0])] = .ok (.fz (.bl true)) [.no, .no] := by
  have h1 := ok_word h.wa
  have h2 := ok_word h.wb
  have h3 := h.lt
  have h4 := h.ab
  have h5 := h.ba
  have h6 := h.nlt
  have h7 := h.qab
  have h8 := h.qba
  have u0 := needl_0 h
  have u1 := meets_0 h
  simp [f_is_cut, b_is_cut, pn_is_cut, h1, h2, h3, h4, h5, h6, h7, h8, cut1, atI, ixN, LIM, Tg.sub, u0, u1]
theorem costof_l : f_cost_of [.fz (view a b), .fz (.tup [.int 0, .int 1])] = .ok (.fz (.int 5)) [.no, .no] := by
  have h1 := ok_word h.wa
  have h2 := ok_word h.wb
  have h3 := h.lt
  have h4 := h.ab
  have h5 := h.ba
  have h6 := h.nlt
  have h7 := h.qab
  have h8 := h.qba
  simp [f_cost_of, b_cost_of, pn_cost_of, h1, h2, h3, h4, h5, h6, h7, h8, cut1, atI, ixN, LIM, Tg.sub]
theorem costof_0 : f_cost_of [.fz (view a b), .fz (.tup [.int 0])] = .ok (.fz (.int 2)) [.no, .no] := by
  have h1 := ok_word h.wa
  have h2 := ok_word h.wb
  have h3 := h.lt
  have h4 := h.ab
  have h5 := h.ba
  have h6 := h.nlt
  have h7 := h.qab
  have h8 := h.qba
  simp [f_cost_of, b_cost_of, pn_cost_of, h1, h2, h3, h4, h5, h6, h7, h8, cut1, atI, ixN, LIM, Tg.sub]
theorem cost_l : f_cost [.fz (view a b), .fz (.tup [.int 0, .int 1])] = .ok (.fz (.int 5)) [.no, .no] := by
  have h1 := ok_word h.wa
  have h2 := ok_word h.wb
  have h3 := h.lt
  have h4 := h.ab
  have h5 := h.ba
  have h6 := h.nlt
  have h7 := h.qab
  have h8 := h.qba
  have u0 := needl_l h
  have u1 := costof_l h
  simp [f_cost, b_cost, pn_cost, h1, h2, h3, h4, h5, h6, h7, h8, cut1, atI, ixN, LIM, Tg.sub, u0, u1]
theorem prices_ : f_Code_prices [.fz (view a b)] = .ok (.fz (.tup [.int 2, .int 3])) [.no] := by
  have h1 := ok_word h.wa
  have h2 := ok_word h.wb
  have h3 := h.lt
  have h4 := h.ab
  have h5 := h.ba
  have h6 := h.nlt
  have h7 := h.qab
  have h8 := h.qba
  simp [f_Code_prices, b_Code_prices, pn_Code_prices, h1, h2, h3, h4, h5, h6, h7, h8, cut1, atI, ixN, LIM, Tg.sub]
theorem price_of_ : f_price_of [.fz (view a b)] = .ok (.fz (.dk [(.inl 0, .int 2), (.inl 1, .int 3)])) [.no] := by
  have h1 := ok_word h.wa
  have h2 := ok_word h.wb
  have h3 := h.lt
  have h4 := h.ab
  have h5 := h.ba
  have h6 := h.nlt
  have h7 := h.qab
  have h8 := h.qba
  have u0 := prices_ h
  simp [f_price_of, b_price_of, pn_price_of, h1, h2, h3, h4, h5, h6, h7, h8, cut1, atI, ixN, LIM, Tg.sub, dEnumD, enumFrom, u0]
theorem least_cost_ : f_least_cost [.fz (view a b)] = .ok (.fz (.int 2)) [.no] := by
  have h1 := ok_word h.wa
  have h2 := ok_word h.wb
  have h3 := h.lt
  have h4 := h.ab
  have h5 := h.ba
  have h6 := h.nlt
  have h7 := h.qab
  have h8 := h.qba
  have u0 := loops_ h
  have u1 := price_of_ h
  simp [f_least_cost, b_least_cost, pn_least_cost, h1, h2, h3, h4, h5, h6, h7, h8, cut1, atI, ixN, LIM, Tg.sub, hits_full, u0, u1]
theorem least_cut_ : f_least_cut [.fz (view a b)] = .ok (.fz (.tup [.int 0])) [.no] := by
  have h1 := ok_word h.wa
  have h2 := ok_word h.wb
  have h3 := h.lt
  have h4 := h.ab
  have h5 := h.ba
  have h6 := h.nlt
  have h7 := h.qab
  have h8 := h.qba
  have u0 := loops_ h
  have u1 := price_of_ h
  simp [f_least_cut, b_least_cut, pn_least_cut, h1, h2, h3, h4, h5, h6, h7, h8, cut1, atI, ixN, LIM, Tg.sub, hits_full, u0, u1]
theorem least_within_ : f_least_within [.fz (view a b), .fz (.tup [.int 1])] = .ok (.fz (.tup [.int 1])) [.no, .no] := by
  have h1 := ok_word h.wa
  have h2 := ok_word h.wb
  have h3 := h.lt
  have h4 := h.ab
  have h5 := h.ba
  have h6 := h.nlt
  have h7 := h.qab
  have h8 := h.qba
  have u0 := needl_1 h
  have u1 := loops_ h
  have u2 := price_of_ h
  simp [f_least_within, b_least_within, pn_least_within, h1, h2, h3, h4, h5, h6, h7, h8, cut1, atI, ixN, LIM, Tg.sub, hits_one, kput, u0, u1, u2]
theorem is_pack_ : f_is_pack [.fz (view a b), .fz (.tup [.tup [.tup [.int 0, .int 1], .int 2]])] = .ok (.fz (.bl true)) [.no, .no] := by
  have h1 := ok_word h.wa
  have h2 := ok_word h.wb
  have h3 := h.lt
  have h4 := h.ab
  have h5 := h.ba
  have h6 := h.nlt
  have h7 := h.qab
  have h8 := h.qba
  have u0 := is_loop_ h
  have u1 := price_of_ h
  simp [f_is_pack, b_is_pack, pn_is_pack, h1, h2, h3, h4, h5, h6, h7, h8, cut1, atI, ixN, LIM, Tg.sub, ris_l, packs_full, ev_is_number_i, u0, u1]
theorem thepaper_ : f_paper [.fz (view a b)] = .ok (.fz (.tup [.tup [.int 0], .tup [.tup [.tup [.int 0, .int 1], .int 2]]])) [.no] := by
  have h1 := ok_word h.wa
  have h2 := ok_word h.wb
  have h3 := h.lt
  have h4 := h.ab
  have h5 := h.ba
  have h6 := h.nlt
  have h7 := h.qab
  have h8 := h.qba
  have u0 := need_door h
  have u1 := least_cut_ h
  have u2 := loops_ h
  have u3 := price_of_ h
  simp [f_paper, b_paper, pn_paper, h1, h2, h3, h4, h5, h6, h7, h8, cut1, atI, ixN, LIM, Tg.sub, packed_full, u0, u1, u2, u3]
theorem check_ : f_check [.fz (view a b), .fz (.tup [.int 0]), .fz (.tup [.tup [.tup [.int 0, .int 1], .int 2]])] = .ok (.fz (.int 2)) [.no, .no, .no] := by
  have h1 := ok_word h.wa
  have h2 := ok_word h.wb
  have h3 := h.lt
  have h4 := h.ab
  have h5 := h.ba
  have h6 := h.nlt
  have h7 := h.qab
  have h8 := h.qba
  have u0 := lot_0 h
  have u1 := meets_0 h
  have u2 := is_pack_ h
  have u3 := costof_0 h
  simp [f_check, b_check, pn_check, h1, h2, h3, h4, h5, h6, h7, h8, cut1, atI, ixN, LIM, Tg.sub, u0, u1, u2, u3]
end
end Pu
namespace Pu
open PySem L2 Lc Wk
section
variable {a b : Str} (h : Two a b)
include h

theorem first_ : f__law_first_right [.fz (.str a), .fz (.str b), .fz (view a b)] = .ok (.fz (.bl true)) [.no, .no, .no] := by
  have h1 := ok_word h.wa
  have h2 := ok_word h.wb
  have h3 := h.lt
  have h4 := h.ab
  have h5 := h.ba
  have h6 := h.nlt
  have h7 := h.qab
  have h8 := h.qba
  have u0 := init_l h
  have u1 := eq_ h
  have u2 := with_ h
  have u3 := without_ h
  have u4 := priced_ h
  have u5 := loops_ h
  have u6 := is_loop_ h
  have u7 := places_of_ h
  have u8 := is_way_ h
  simp [f__law_first_right, b__law_first_right, pn__law_first_right, h1, h2, h3, h4, h5, h6, h7, h8, cut1, atI, ixN, LIM, Tg.sub, u0, u1, u2, u3, u4, u5, u6, u7, u8]
theorem second_ : f__law_second_right [.fz (.str a), .fz (.str b), .fz (view a b)] = .ok (.fz (.bl true)) [.no, .no, .no] := by
  have h1 := ok_word h.wa
  have h2 := ok_word h.wb
  have h3 := h.lt
  have h4 := h.ab
  have h5 := h.ba
  have h6 := h.nlt
  have h7 := h.qab
  have h8 := h.qba
  have u0 := one_door_ h
  have u1 := door_of_ h
  have u2 := check_d h
  have u3 := paper_ h
  have u4 := cut_0 h
  have u5 := cost_l h
  have u6 := least_cost_ h
  have u7 := least_cut_ h
  have u8 := least_within_ h
  have u9 := is_pack_ h
  have u10 := thepaper_ h
  have u11 := check_ h
  simp [f__law_second_right, b__law_second_right, pn__law_second_right, h1, h2, h3, h4, h5, h6, h7, h8, cut1, atI, ixN, LIM, Tg.sub, u0, u1, u2, u3, u4, u5, u6, u7, u8, u9, u10, u11]
end
end Pu
namespace Pu
open PySem L2 Lc Wk
theorem wh_go {c : EB} {b : ES} {n : Nat} {ρ ρ1 ρ2 : List Sl} (h1 : c ρ = .ok true ρ1) (h2 : b ρ1 = .nx ρ2) : sWh c b (n + 1) ρ = sWh c b n ρ2 := by
  show (c ρ).thenS _ = _
  rw [h1]
  show (match b ρ1 with
      | .nx ρ => sWh c b n ρ
      | .ct ρ => sWh c b n ρ
      | .bk ρ => .nx ρ
      | r => r) = _
  rw [h2]
theorem wh_end {c : EB} {b : ES} {n : Nat} {ρ ρ1 : List Sl} (h1 : c ρ = .ok false ρ1) : sWh c b (n + 1) ρ = .nx ρ1 := by
  show (c ρ).thenS _ = _
  rw [h1]
  rfl
theorem wh_next (r : List Sl) : ∀ (N : Nat) (m : MSt), m.left.length < N → sWh (bAnd (bV (omAt 0 omLeft)) (bV (eOp2 D.eqD (oV (omAt 0 omHead)) (oV (eC (.int 0)))))) (sSeq (omSet 0 omTail) (sNil)) N (.ow (.om m) :: r) = .nx (.ow (.om ⟨m.cells, m.left.dropWhile fun x => decide (x = 0), m.at_⟩) :: r)
  | 0, m, h => absurd h (Nat.not_lt_zero _)
  | N + 1, m, h => by
    obtain ⟨cs, ls, k⟩ := m
    cases ls with
    | nil => exact wh_end rfl
    | cons x xs =>
      by_cases hx : x = 0
      · subst hx
        have ih := wh_next r N ⟨cs, xs, k⟩ (by simpa using h)
        have e : cutL (0 :: xs) (some 1) none = xs := by
          unfold cutL
          simp [HT.sIx]
        have e2 : List.dropWhile (fun x : Int => decide (x = 0)) (0 :: xs) = List.dropWhile (fun x => decide (x = 0)) xs := by
          rw [List.dropWhile_cons_of_pos (by decide)]
        show _ = SRes.nx (Sl.ow (D.om ⟨cs, List.dropWhile (fun x : Int => decide (x = 0)) (0 :: xs), k⟩) :: r)
        rw [e2, ← ih]
        refine wh_go (ρ1 := .ow (.om ⟨cs, 0 :: xs, k⟩) :: r) rfl ?_
        show SRes.nx (Sl.ow (D.om ⟨cs, cutL (0 :: xs) (some 1) none, k⟩) :: r) = _
        rw [e]
      · have e2 : List.dropWhile (fun x : Int => decide (x = 0)) (x :: xs) = x :: xs := by
          rw [List.dropWhile_cons_of_neg (by simp [hx])]
        show _ = SRes.nx (Sl.ow (D.om ⟨cs, List.dropWhile (fun x : Int => decide (x = 0)) (x :: xs), k⟩) :: r)
        rw [e2]
        refine wh_end ?_
        have e3 : (x == 0) = false := by simp [hx]
        show Res.ok (x == 0) _ = _
        rw [e3]
theorem pys_ints (ns : List Int) : D.pys (ns.map D.int) = some (ns.map PyData.int) := by
  induction ns with
  | nil => rfl
  | cons x xs ih => simp [D.pys, D.py, ih]
theorem ints_ints (ns : List Int) : D.ints (ns.map D.int) = some ns := by
  induction ns with
  | nil => rfl
  | cons x xs ih => simp [D.ints, ih]
theorem neD_nil (ns : List Int) : D.neD (.lst (ns.map D.int)) (.lst []) = some (.bl (!ns.isEmpty)) := by
  have h := PySem.W.ke_shaped_ints ns
  show oB ((D.eqB _ _).map not) = _
  have e : D.eqB (.lst (ns.map D.int)) (.lst []) = some (PyData.eqv (.list (ns.map PyData.int)) (.list [])) := by
    simp only [D.eqB, D.py, pys_ints, Option.map_some, D.pys, h, PySem.W.ke_shaped_ints []]
    rfl
  rw [e]
  cases ns <;> rfl
theorem at_ints (ns : List Int) (i : Int) (h0 : 0 ≤ i) (h1 : i < ns.length) : ∃ c, D.ixD (.lst (ns.map D.int)) (.int i) = some (.int c) := by
  have hj : i.toNat < ns.length := by omega
  refine ⟨ns[i.toNat], ?_⟩
  show atI (ns.map D.int) i = _
  simp [atI, ixN, h0, h1, hj]
theorem mulR {k j : Int} (h0 : 0 ≤ k) (h1 : k < 2 ^ 60) : D.mulD (.int j) (.int k) = some (.int (j * k)) := if_pos (by
  unfold okMul
  simp
  omega)
theorem mulL {k j : Int} (h0 : 0 ≤ k) (h1 : k < 2 ^ 60) : D.mulD (.int k) (.int j) = some (.int (k * j)) := if_pos (by
  unfold okMul
  simp
  omega)
theorem modd {k j : Int} (h : 0 < j) : D.modD (.int k) (.int j) = some (.int (k % j)) := if_pos h
theorem divd {k j : Int} (h : 0 < j) (h2 : j < 1073741824) : D.fdivD (.int k) (.int j) = some (.int (k / j)) := if_pos ⟨h, h2⟩
theorem fn_seq {pn : Nat → Bool} {n m : Nat} {t u : ES} {as ρ : List Sl} (hl : as.length = n) (hr : as ++ List.replicate m .no = ρ) : fnE pn n m (sSeq t u) as = SRes.fin pn n (SRes.go (t ρ) u) := by
  rw [v_fn, if_pos hl, v_seq, hr]
theorem next_end {r : Res Sl} {n : Int} {m : MSt} (m' : MSt) (hn : 0 < n) (h1 : m'.left.length ≤ m.left.length) (h2 : m.at_ ≤ m'.at_) (h3 : m'.at_ ≤ m.at_ + 1) (h4 : m'.cells = m.cells) (h : ∃ x : Int, r = .ok (.fz (.int (x % n))) [.ow (.om m'), .no]) :
    ∃ (m' : MSt) (k : Int), r = .ok (.fz (.int k)) [.ow (.om m'), .no] ∧ 0 ≤ k ∧ k < n ∧ m'.left.length ≤ m.left.length ∧ m.at_ ≤ m'.at_ ∧ m'.at_ ≤ m.at_ + 1 ∧ m'.cells = m.cells := by
  obtain ⟨x, e⟩ := h
  exact ⟨m', x % n, e, Int.emod_nonneg _ (by omega), Int.emod_lt_of_pos _ hn, h1, h2, h3, h4⟩
theorem next_spec (m : MSt) (n : Int) (hn : 0 < n) (hn2 : n < 1073741824) (hl : m.left.length < 70) (ha : 0 ≤ m.at_) (ha2 : m.at_ < 2 ^ 40) :
    ∃ (m' : MSt) (k : Int), f__law_next [.ow (.om m), .fz (.int n)] = .ok (.fz (.int k)) [.ow (.om m'), .no] ∧ 0 ≤ k ∧ k < n ∧ m'.left.length ≤ m.left.length ∧ m.at_ ≤ m'.at_ ∧ m'.at_ ≤ m.at_ + 1 ∧ m'.cells = m.cells := by
  have hw := wh_next [.fz (.int n), .no, .no, .no, .no, .no] 70 m hl
  have hd : (m.left.dropWhile fun x => decide (x = 0)).length ≤ m.left.length := (List.dropWhile_sublist _).length_le
  generalize he : (m.left.dropWhile fun x => decide (x = 0)) = ls at hw hd
  cases ls with
  | cons x xs =>
    have e1 : D.fdivD (.int x) (.int n) = some (.int (x / n)) := divd hn hn2
    have e2 : D.modD (.int x) (.int n) = some (.int (x % n)) := modd hn
    refine ⟨⟨m.cells, (x / n) :: xs, m.at_⟩, x % n, ?_, Int.emod_nonneg _ (by omega), Int.emod_lt_of_pos _ hn, by simpa using hd, Int.le_refl _, by show m.at_ ≤ m.at_ + 1; omega, rfl⟩
    unfold f__law_next b__law_next
    rw [fn_seq (n := 2) (m := 5) (as := [.ow (.om m), .fz (.int n)]) (ρ := [.ow (.om m), .fz (.int n), .no, .no, .no, .no, .no]) rfl rfl, hw]
    simp [omLeft, omHead, omHeadS, e1, e2, pn__law_next]
  | nil =>
    unfold f__law_next b__law_next
    rw [fn_seq (n := 2) (m := 5) (as := [.ow (.om m), .fz (.int n)]) (ρ := [.ow (.om m), .fz (.int n), .no, .no, .no, .no, .no]) rfl rfl, hw]
    obtain ⟨cells, left, at_⟩ := m
    simp only at ha ha2
    have ha3 : 0 ≤ at_ + 1 := by omega
    have ha4 : at_ + 1 < 2 ^ 60 := by omega
    obtain ⟨a, hA⟩ : ∃ a, at_ + 1 = a := ⟨_, rfl⟩
    rw [hA] at ha3 ha4
    have q1 : ∀ k, D.mulD (.int k) (.int a) = some (.int (k * a)) := fun k => mulR ha3 ha4
    have q2 : ∀ k, D.mulD (.int a) (.int k) = some (.int (a * k)) := fun k => mulL ha3 ha4
    have q3 : ∀ k, D.mulD (.int k) (.int 40692) = some (.int (k * 40692)) := fun k => mulR (by decide) (by decide)
    have q4 : ∀ k, D.mulD (.int k) (.int 48271) = some (.int (k * 48271)) := fun k => mulR (by decide) (by decide)
    have q5 : ∀ k, D.fdivD (.int k) (.int 2) = some (.int (k / 2)) := fun k => divd (by decide) (by decide)
    have q6 : ∀ k, D.fdivD (.int k) (.int 13) = some (.int (k / 13)) := fun k => divd (by decide) (by decide)
    have q7 : ∀ k, D.modD (.int k) (.int 2147483399) = some (.int (k % 2147483399)) := fun k => modd (by decide)
    have q8 : ∀ k, D.modD (.int k) (.int 2147483647) = some (.int (k % 2147483647)) := fun k => modd (by decide)
    have q9 : ∀ k, D.modD (.int k) (.int n) = some (.int (k % n)) := fun k => modd hn
    cases cells with
    | nil =>
      refine next_end (m := ⟨[], left, at_⟩) ⟨[], [], a⟩ hn (by simp) (by simp only; omega) (by simp only; omega) rfl ?_
      simp [omLeft, omInt, omCells, omAtS, pn__law_next, hA, q1, q2, q3, q4, q5, q6, q7, q8, q9, LIM]
      exact ⟨_, rfl⟩
    | cons c cs =>
      have hl2 : (0 : Int) < ((c :: cs).length : Nat) := by simp only [List.length_cons]; omega
      have q10 : ∀ k, D.modD (.int k) (.int ((c :: cs).length : Nat)) = some (.int (k % ((c :: cs).length : Nat))) := fun k => modd hl2
      obtain ⟨v, hv⟩ := at_ints (c :: cs) ((a * a + a / 2) % ((c :: cs).length : Nat)) (Int.emod_nonneg _ (by omega)) (Int.emod_lt_of_pos _ hl2)
      have hne := neD_nil (c :: cs)
      generalize hds : (c :: cs).map D.int = ds at hv hne
      have hlen : (c :: cs).length = ds.length := by rw [← hds]; simp
      rw [hlen] at q10 hv
      refine next_end (m := ⟨c :: cs, left, at_⟩) ⟨c :: cs, [], a⟩ hn (by simp) (by simp only; omega) (by simp only; omega) rfl ?_
      have hco : omCells ⟨c :: cs, [], at_⟩ = some (.lst ds) := by rw [← hds]; rfl
      rw [ix_l] at hv
      simp [omLeft, omInt, hco, omAtS, pn__law_next, hA, q1, q2, q3, q4, q5, q6, q7, q8, q9, q10, hv, hne, LIM]
      exact ⟨_, rfl⟩
end Pu
namespace Pu
open PySem L2 Lc Wk
def S (l : List Nat) : Str := ⟨l.toArray⟩
@[simp] theorem S_cps (l : List Nat) : (S l).cps.toList = l := by simp [S]
@[simp] theorem S_len (l : List Nat) : (S l).length = l.length := by simp [S, Str.length]
theorem S_inj {l k : List Nat} (h : S l = S k) : l = k := by
  have := congrArg (fun s : Str => s.cps.toList) h
  simpa using this
theorem S_of (x : Str) : S x.cps.toList = x := by
  cases x
  simp [S]
theorem addS {x y : List Nat} (h : x.length + y.length ≤ LIM) : D.addD (.str (S x)) (.str (S y)) = some (.str (S (x ++ y))) := by
  show (if (S x).length + (S y).length ≤ LIM then some (D.str (S x ++ S y)) else none) = _
  rw [S_len, S_len, if_pos h]
  congr 2
  show (⟨(S x).cps ++ (S y).cps⟩ : Str) = _
  simp [S]
theorem let_at : ∀ k, k < 26 → letters.cps.toList[k]? = some (97 + k) := by decide +kernel
theorem let_in {c : Nat} (h1 : 97 ≤ c) (h2 : c < 123) : decide (c ∈ letters.cps.toList) = true := by
  have : ∀ k, k < 26 → decide (97 + k ∈ letters.cps.toList) = true := by decide +kernel
  have h := this (c - 97) (by omega)
  rwa [show 97 + (c - 97) = c by omega] at h
theorem ixL {i : Int} (h0 : 0 ≤ i) (h1 : i < 26) : D.ixD (.str letters) (.int i) = some (.str (S [97 + i.toNat])) := by
  show (if letters.length ≤ LIM then (atI letters.cps.toList i).map fun c => D.str ⟨#[c]⟩ else none) = _
  have hl : letters.cps.toList.length = 26 := by decide +kernel
  rw [if_pos (by decide +kernel)]
  unfold atI ixN
  rw [hl, if_pos h0, if_pos (by omega)]
  simp only [Option.bind_some]
  rw [let_at _ (by omega)]
  rfl
theorem slT {x : List Nat} {k : Int} (h : x.length ≤ LIM) (h0 : 0 ≤ k) (h1 : k ≤ x.length) : D.slD (.str (S x)) none (some k) = some (.str (S (x.take k.toNat))) := by
  show (if (S x).length ≤ LIM then some (D.str (cutS (S x) none (some k))) else none) = _
  rw [S_len, if_pos h]
  unfold cutS
  have e : HT.sIx (S x).length (S x).length (some k) = k.toNat := by
    unfold HT.sIx
    simp only []
    rw [if_neg (by omega), S_len]
    omega
  rw [e]
  simp [HT.sIx, S]
theorem slF {x : List Nat} {k : Int} (h : x.length ≤ LIM) (h0 : 0 ≤ k) (h1 : k ≤ x.length) : D.slD (.str (S x)) (some k) none = some (.str (S (x.drop k.toNat))) := by
  show (if (S x).length ≤ LIM then some (D.str (cutS (S x) (some k) none)) else none) = _
  rw [S_len, if_pos h]
  unfold cutS
  have e : HT.sIx (S x).length 0 (some k) = k.toNat := by
    unfold HT.sIx
    simp only []
    rw [if_neg (by omega), S_len]
    omega
  rw [e]
  have e2 : HT.sIx (S x).length (S x).length none = x.length := by rw [HT.sIx_none, S_len]
  rw [e2, S_cps, List.take_of_length_le (by simp)]
  rfl
theorem mul8 (c : Nat) : D.mulS (.str (S [c])) (.int 8) = some (.str (S (List.replicate 8 c))) := by
  show (if (2 : Int) ≤ 8 ∧ (8 : Int) ≤ 1000 ∧ 1 ≤ (S [c]).length ∧ (S [c]).length ≤ 1000 then some (D.str (strRep (S [c]) (8 : Int).toNat)) else none) = _
  rw [if_pos (by simp)]
  rfl
theorem word_S (l : List Nat) (h1 : 1 ≤ l.length) (h2 : l.length ≤ 8) (h3 : ∀ c ∈ l, 97 ≤ c ∧ c < 123) : isWord (S l) = true := by
  unfold isWord
  rw [S_len, S_cps, decide_eq_true h1, decide_eq_true h2]
  simp only [Bool.true_and, List.all_eq_true]
  exact fun c hc => let_in (h3 c hc).1 (h3 c hc).2
theorem rangeD_map (n : Nat) : ∀ k : Nat, rangeD k n = (List.range' k n).map fun j => .int (j : Nat) := by
  induction n with
  | zero => intro k; rfl
  | succ n ih =>
    intro k
    rw [range_s, List.range'_succ, List.map_cons]
    have := ih (k + 1)
    rw [← this]
    rfl
theorem rangeD_0 (n : Nat) : rangeD 0 n = (List.range n).map fun j => .int (j : Nat) := by
  have := rangeD_map n 0
  rw [List.range_eq_range', ← this]
  rfl
abbrev stemB : ES := sSeq (sSet (pn__law_names) 3 (eOp2 D.addD (oVar 3) (oV (eOp2 D.ixD (oVar 2) (oV (eFz (eCl f__law_next 2 0 (ordL [0, 1]) (rOwn 0 (rCons (eC (.int 26)) (rNil))) (rNil)))))))) (sNil)
theorem stem_loop (x1 : Sl) : ∀ (ds : List D) (m : MSt) (st : List Nat) (z : Sl), notOw z = true → m.left.length < 70 → 0 ≤ m.at_ → m.at_ + ds.length < 2 ^ 40 → (∀ c ∈ st, 97 ≤ c ∧ c < 123) → st.length + ds.length ≤ 7 →
    ∃ m' st' z', sFor (gSet 4) stemB ds [.ow (.om m), x1, .fz (.str letters), .fz (.str (S st)), z, .no, .no, .no, .no] = .nx [.ow (.om m'), x1, .fz (.str letters), .fz (.str (S st')), z', .no, .no, .no, .no] ∧
      (∀ c ∈ st', 97 ≤ c ∧ c < 123) ∧ st'.length = st.length + ds.length ∧ m'.left.length ≤ m.left.length ∧ m.at_ ≤ m'.at_ ∧ m'.at_ ≤ m.at_ + ds.length ∧ m'.cells = m.cells ∧ notOw z' = true
  | [], m, st, z, hz, h1, h2, h3, h4, h5 => ⟨m, st, z, rfl, h4, rfl, Nat.le_refl _, Int.le_refl _, by simp, rfl, hz⟩
  | d :: ds, m, st, z, hz, h1, h2, h3, h4, h5 => by
    have h3' : m.at_ + (ds.length + 1 : Nat) < 2 ^ 40 := h3
    have h5' : st.length + (ds.length + 1) ≤ 7 := h5
    obtain ⟨m1, k, e, k0, k1, a1, a2, a3, a4⟩ := next_spec m 26 (by decide) (by decide) h1 h2 (by omega)
    obtain ⟨m2, st2, z2, e2, b1, b2, b3, b4, b5, b6, b7⟩ := stem_loop x1 ds m1 (st ++ [97 + k.toNat]) (.fz d) rfl (by omega) (by omega) (by omega) (by
      intro c hc
      rcases List.mem_append.mp hc with hc | hc
      · exact h4 c hc
      · cases List.mem_singleton.mp hc
        omega) (by simp; omega)
    refine ⟨m2, st2, z2, ?_, b1, by rw [b2]; simp; omega, by omega, by omega, by simp; omega, by rw [b6, a4], b7⟩
    have e3 : D.addD (.str (S st)) (.str (S [97 + k.toNat])) = some (.str (S (st ++ [97 + k.toNat]))) := addS (by unfold LIM; simp; omega)
    have e4 := ixL k0 k1
    simp [pn__law_names, e, e3, e4]
    exact e2
theorem lc_names {e : EE} {ρ : List Sl} {n : Nat} {g : Nat → Str} (hn : n ≤ 8) (hρ : noOw ρ [4] = true) (h4 : 4 < ρ.length) (h : ∀ k, k < n → e ((ρ.set 4 .no).set 4 (.fz (.int (k : Nat)))) = .ok (.str (g k)) ((ρ.set 4 .no).set 4 (.fz (.int (k : Nat))))) :
    kLc [4] (gSet 4) bYes e (rangeD 0 n) ρ = .ok (.lst (((List.range n).map g).map D.str)) ρ := by
  rw [rangeD_0, lc_map1 (g := fun k => .str (g k)) (List.range n) hρ (by unfold LIM; simp; omega) fun k hk => ⟨_, rfl, by simp, h k (List.mem_range.mp hk)⟩, List.map_map]
  rfl
def namesR (g : Nat → List Nat) (n : Nat) (m' : MSt) : Res Sl := .ok (.fz (.lst (((List.range n).map fun k => S (g k)).map D.str))) [.ow (.om m'), .no]
theorem names_end {r : Res Sl} {n : Nat} {m m' : MSt} (g : Nat → List Nat) (h : r = namesR g n m')
    (hi : ∀ i j, i < n → j < n → i ≠ j → g i ≠ g j) (hw : ∀ k, k < n → 1 ≤ (g k).length ∧ (g k).length ≤ 8 ∧ ∀ c ∈ g k, 97 ≤ c ∧ c < 123) (h1 : m'.left.length ≤ m.left.length) (h2 : m.at_ ≤ m'.at_) (h3 : m'.at_ ≤ m.at_ + 20) (h4 : m'.cells = m.cells) :
    ∃ (m' : MSt) (xs : List Str), r = .ok (.fz (.lst (xs.map D.str))) [.ow (.om m'), .no] ∧ xs.length = n ∧ xs.Nodup ∧ (∀ x ∈ xs, isWord x = true) ∧ m'.left.length ≤ m.left.length ∧ m.at_ ≤ m'.at_ ∧ m'.at_ ≤ m.at_ + 20 ∧ m'.cells = m.cells := by
  refine ⟨m', _, h, by simp, ?_, ?_, h1, h2, h3, h4⟩
  · unfold List.Nodup
    rw [List.pairwise_map]
    refine List.Pairwise.imp_of_mem ?_ List.nodup_range
    intro i j h1 h2 hij e
    exact hi i j (List.mem_range.mp h1) (List.mem_range.mp h2) hij (S_inj e)
  · intro x hx
    obtain ⟨k, hk, rfl⟩ := List.mem_map.mp hx
    obtain ⟨a1, a2, a3⟩ := hw k (List.mem_range.mp hk)
    exact word_S _ a1 a2 a3
def gA (st : List Nat) (at_ f bb : Int) (k : Nat) : List Nat := st.take at_.toNat ++ [97 + ((f + bb * k) % 26).toNat] ++ st.drop at_.toNat
theorem caseA {st : List Nat} {at_ f bb : Int} {z : Sl} {m5 : MSt} {n : Nat} {x8 : Sl} (hs : st.length ≤ 7) (p0 : 0 ≤ at_) (p1 : at_ ≤ st.length) (h0 : 0 ≤ bb) (h1 : bb < 12) (hz : notOw z = true) (hn2 : n ≤ 8) :
    SRes.fin (fun j => j == 0) 2 (SRes.go (((kLc [4] (gSet 4) bYes (eOp2 D.addD (oV (eOp2 D.addD (oV (eSl (oVar 3) lNo (lSo (eVar 5)))) (oV (eOp2 D.ixD (oVar 2) (oV (eOp2 D.modD (oV (eOp1 D.intD (oV (eOp2 D.addD (oVar 6) (oV (eOp2 D.mulD (oVar 7) (oVar 4))))))) (oV (eC (.int 26))))))))) (oV (eSl (oVar 3) (lSo (eVar 5)) lNo))) (rangeD 0 n)
      [Sl.ow (D.om m5), Sl.fz (D.int ↑n), Sl.fz (D.str letters), Sl.fz (D.str (S st)), z, Sl.fz (D.int at_), Sl.fz (D.int f), Sl.fz (D.int bb), x8]).bind kNoOm).thenS kRet) sNil) = namesR (gA st at_ f bb) n m5 := by
  rw [lc_names (g := fun k => S (gA st at_ f bb k)) hn2 (by simp [hz]) (by simp)]
  · simp [namesR]
  · intro k hk
    have sP : D.slD (.str (S st)) none (some at_) = some (.str (S (st.take at_.toNat))) := slT (by unfold LIM; omega) p0 (by omega)
    have sQ : D.slD (.str (S st)) (some at_) none = some (.str (S (st.drop at_.toNat))) := slF (by unfold LIM; omega) p0 (by omega)
    have e1 : D.mulD (.int bb) (.int (k : Nat)) = some (.int (bb * k)) := mulL h0 (by omega)
    have e2 : ∀ x, D.modD (.int x) (.int 26) = some (.int (x % 26)) := fun x => modd (by decide)
    have e3 : D.ixD (.str letters) (.int ((f + bb * k) % 26)) = some (.str (S [97 + ((f + bb * k) % 26).toNat])) := ixL (Int.emod_nonneg _ (by decide)) (Int.emod_lt_of_pos _ (by decide))
    have e4 : D.addD (.str (S (st.take at_.toNat))) (.str (S [97 + ((f + bb * k) % 26).toNat])) = some (.str (S (st.take at_.toNat ++ [97 + ((f + bb * k) % 26).toNat]))) := addS (by unfold LIM; simp; omega)
    have e5 : D.addD (.str (S (st.take at_.toNat ++ [97 + ((f + bb * k) % 26).toNat]))) (.str (S (st.drop at_.toNat))) = some (.str (S (gA st at_ f bb k))) := addS (by unfold LIM; simp; omega)
    generalize hw : st.take at_.toNat ++ [97 + ((f + bb * k) % 26).toNat] = w1 at e4 e5
    generalize hg : gA st at_ f bb k = w2 at e5
    generalize hx : (f + bb * k) % 26 = w3 at e3 e4
    simp [sP, sQ, e1, e2, hx, e3, e4, e5]
theorem caseB {st wd : List Nat} {at_ f bb : Int} {z : Sl} {m5 : MSt} {n : Nat} (hw : wd.length = 8) (h1 : 7 < bb) (hz : notOw z = true) (hn2 : n ≤ 8) :
    kLc [4] (gSet 4) bYes (eIf (bV (eOp2 D.gtD (oVar 7) (oV (eC (.int 7))))) (eSl (oVar 8) (lSo (eVar 4)) lNo) (eSl (oVar 8) lNo (lSo (eOp2 D.subD (oV (eOp2 D.addD (oVar 4) (oV (eC (.int 9))))) (oVar 1))))) (rangeD 0 n)
      [Sl.ow (D.om m5), Sl.fz (D.int ↑n), Sl.fz (D.str letters), Sl.fz (D.str (S st)), z, Sl.fz (D.int at_), Sl.fz (D.int f), Sl.fz (D.int bb), Sl.fz (D.str (S wd))] = .ok (.lst (((List.range n).map fun k => S (wd.drop k)).map D.str)) [Sl.ow (D.om m5), Sl.fz (D.int ↑n), Sl.fz (D.str letters), Sl.fz (D.str (S st)), z, Sl.fz (D.int at_), Sl.fz (D.int f), Sl.fz (D.int bb), Sl.fz (D.str (S wd))] := by
  rw [lc_names (g := fun k => S (wd.drop k)) hn2 (by simp [hz]) (by simp)]
  · intro k hk
    have sQ : D.slD (.str (S wd)) (some (k : Int)) none = some (.str (S (wd.drop k))) := slF (by unfold LIM; omega) (by omega) (by omega)
    simp [sQ, h1]
theorem caseC {st wd : List Nat} {at_ f bb : Int} {z : Sl} {m5 : MSt} {n : Nat} (hw : wd.length = 8) (h1 : ¬ 7 < bb) (hz : notOw z = true) (hn2 : n ≤ 8) (hn : 1 ≤ n) :
    kLc [4] (gSet 4) bYes (eIf (bV (eOp2 D.gtD (oVar 7) (oV (eC (.int 7))))) (eSl (oVar 8) (lSo (eVar 4)) lNo) (eSl (oVar 8) lNo (lSo (eOp2 D.subD (oV (eOp2 D.addD (oVar 4) (oV (eC (.int 9))))) (oVar 1))))) (rangeD 0 n)
      [Sl.ow (D.om m5), Sl.fz (D.int ↑n), Sl.fz (D.str letters), Sl.fz (D.str (S st)), z, Sl.fz (D.int at_), Sl.fz (D.int f), Sl.fz (D.int bb), Sl.fz (D.str (S wd))] = .ok (.lst (((List.range n).map fun k => S (wd.take (k + 9 - n))).map D.str)) [Sl.ow (D.om m5), Sl.fz (D.int ↑n), Sl.fz (D.str letters), Sl.fz (D.str (S st)), z, Sl.fz (D.int at_), Sl.fz (D.int f), Sl.fz (D.int bb), Sl.fz (D.str (S wd))] := by
  rw [lc_names (g := fun k => S (wd.take (k + 9 - n))) hn2 (by simp [hz]) (by simp)]
  · intro k hk
    have sQ : D.slD (.str (S wd)) none (some ((k : Int) + 9 - n)) = some (.str (S (wd.take (k + 9 - n)))) := by
      rw [slT (by unfold LIM; omega) (by omega) (by omega)]
      congr 4
      omega
    simp [sQ, h1]
theorem names_spec (m : MSt) (n : Nat) (hn : 1 ≤ n) (hn2 : n ≤ 8) (hl : m.left.length < 70) (ha : 0 ≤ m.at_) (ha2 : m.at_ < 2 ^ 39) :
    ∃ (m' : MSt) (xs : List Str), f__law_names [.ow (.om m), .fz (.int n)] = .ok (.fz (.lst (xs.map D.str))) [.ow (.om m'), .no] ∧ xs.length = n ∧ xs.Nodup ∧ (∀ x ∈ xs, isWord x = true) ∧ m'.left.length ≤ m.left.length ∧ m.at_ ≤ m'.at_ ∧ m'.at_ ≤ m.at_ + 20 ∧ m'.cells = m.cells := by
  obtain ⟨m1, q, e1, q0, q1, a1, a2, a3, a4⟩ := next_spec m 8 (by decide) (by decide) hl ha (by omega)
  have hq : (q.toNat : Int) = q := by omega
  have hr : rangeD 0 q.toNat = (List.range q.toNat).map fun j => .int (j : Nat) := rangeD_0 _
  have hs0 : (Str.ofString "") = S [] := by decide +kernel
  obtain ⟨m2, st, z, e2, b1, b2, b3, b4, b5, b6, hz⟩ := stem_loop (.fz (.int n)) (rangeD 0 q.toNat) m1 [] .no rfl (by omega) (by omega) (by rw [hr]; simp; omega) (by simp) (by rw [hr]; simp; omega)
  have hds : (rangeD 0 q.toNat).length = q.toNat := by rw [hr]; simp
  rw [hds] at b2 b5
  simp at b2
  obtain ⟨m3, at_, e3, p0, p1, c1, c2, c3, c4⟩ := next_spec m2 (st.length + 1) (by omega) (by omega) (by omega) (by omega) (by omega)
  obtain ⟨m4, f, e4, f0, f1, d1, d2, d3, d4⟩ := next_spec m3 26 (by decide) (by decide) (by omega) (by omega) (by omega)
  obtain ⟨m5, b, e5, g0, g1, i1, i2, i3, i4⟩ := next_spec m4 6 (by decide) (by decide) (by omega) (by omega) (by omega)
  have hL : D.lenD (.str (S st)) = some (.int st.length) := by
    show (if (S st).length ≤ LIM then some (D.int (S st).length) else none) = _
    rw [S_len, if_pos (by unfold LIM; omega)]
  have eL : (Str.ofString "abcdefghijklmnopqrstuvwxyz") = letters := rfl
  have eF := ixL f0 f1
  obtain ⟨w8, hw8⟩ : ∃ w, w = List.replicate 8 (97 + f.toNat) := ⟨_, rfl⟩
  have hw8l : w8.length = 8 := by rw [hw8]; simp
  have hw8c : ∀ c ∈ w8, 97 ≤ c ∧ c < 123 := by
    intro c hc
    rw [hw8] at hc
    rw [List.eq_of_mem_replicate hc]
    omega
  have eM : D.mulS (.str (S [97 + f.toNat])) (.int 8) = some (.str (S w8)) := by rw [hw8]; exact mul8 _
  have eA : D.addD (.str (S st)) (.str (S w8)) = some (.str (S (st ++ w8))) := addS (by unfold LIM; omega)
  obtain ⟨wd, hwd⟩ : ∃ w, w = (st ++ w8).take 8 := ⟨_, rfl⟩
  have eT : D.slD (.str (S (st ++ w8))) none (some 8) = some (.str (S wd)) := by
    rw [hwd]
    exact slT (by unfold LIM; simp; omega) (by decide) (by simp; omega)
  have hwl : wd.length = 8 := by rw [hwd]; simp; omega
  have hwc : ∀ c ∈ wd, 97 ≤ c ∧ c < 123 := by
    intro c hc
    rw [hwd] at hc
    rcases List.mem_append.mp (List.mem_of_mem_take hc) with h | h
    · exact b1 c h
    · exact hw8c c h
  have hb : b = 0 ∨ b = 1 ∨ b = 2 ∨ b = 3 ∨ b = 4 ∨ b = 5 := by omega
  have hn9 : (n : Int) < 9 := by omega
  have hqa : -1000000 < q := by omega
  have hqb : q < 1000000 := by omega
  have hna : -1000000 < (n : Int) := by omega
  have hnb : (n : Int) < 1000000 := by omega
  have hcells : m5.cells = m.cells := by rw [i4, d4, c4, b6, a4]
  have inA : ∀ bb : Int, bb = 1 ∨ bb = 3 ∨ bb = 5 → (∀ i j, i < n → j < n → i ≠ j → gA st at_ f bb i ≠ gA st at_ f bb j) ∧ ∀ k, k < n → 1 ≤ (gA st at_ f bb k).length ∧ (gA st at_ f bb k).length ≤ 8 ∧ ∀ c ∈ gA st at_ f bb k, 97 ≤ c ∧ c < 123 := by
    intro bb hbb
    refine ⟨fun i j hi hj hij e => ?_, fun k hk => ⟨by unfold gA; simp; omega, by unfold gA; simp; omega, fun c hc => ?_⟩⟩
    · unfold gA at e
      rw [List.append_assoc, List.append_assoc] at e
      have e1 := List.append_cancel_left e
      simp only [List.cons_append, List.nil_append, List.cons.injEq, and_true] at e1
      rcases hbb with rfl | rfl | rfl <;> omega
    · unfold gA at hc
      rcases List.mem_append.mp hc with hc | hc
      · rcases List.mem_append.mp hc with hc | hc
        · exact b1 c (List.mem_of_mem_take hc)
        · cases List.mem_singleton.mp hc
          have := Int.emod_nonneg (f + bb * k) (b := 26) (by decide)
          have := Int.emod_lt_of_pos (f + bb * k) (b := 26) (by decide)
          omega
      · exact b1 c (List.mem_of_mem_drop hc)
  have inB : (∀ i j, i < n → j < n → i ≠ j → wd.drop i ≠ wd.drop j) ∧ ∀ k, k < n → 1 ≤ (wd.drop k).length ∧ (wd.drop k).length ≤ 8 ∧ ∀ c ∈ wd.drop k, 97 ≤ c ∧ c < 123 :=
    ⟨fun i j hi hj hij e => by
      have := congrArg List.length e
      simp at this
      omega, fun k hk => ⟨by simp; omega, by simp; omega, fun c hc => hwc c (List.mem_of_mem_drop hc)⟩⟩
  have inC : (∀ i j, i < n → j < n → i ≠ j → wd.take (i + 9 - n) ≠ wd.take (j + 9 - n)) ∧ ∀ k, k < n → 1 ≤ (wd.take (k + 9 - n)).length ∧ (wd.take (k + 9 - n)).length ≤ 8 ∧ ∀ c ∈ wd.take (k + 9 - n), 97 ≤ c ∧ c < 123 :=
    ⟨fun i j hi hj hij e => by
      have := congrArg List.length e
      simp at this
      omega, fun k hk => ⟨by simp; omega, by simp; omega, fun c hc => hwc c (List.mem_of_mem_take hc)⟩⟩
  rcases hb with rfl | rfl | rfl | rfl | rfl | rfl
  · refine names_end (m' := m5) (gA st at_ f 1) ?_ (inA 1 (by omega)).1 (inA 1 (by omega)).2 (by omega) (by omega) (by omega) hcells
    unfold f__law_names b__law_names
    rw [eL, hs0]
    generalize hR : namesR _ n m5 = R
    simp -implicitDefEqProofs [-kLc_, pn__law_names, e1, hq, hqa, hqb, hna, hnb, e2, hL, e3, e4, e5, eF, eM, eA, eT, atI, ixN, LIM, hn9]
    rw [← hR]
    exact caseA (bb := 1) (by omega) p0 (by omega) (by decide) (by decide) hz hn2
  · refine names_end (m' := m5) (gA st at_ f 3) ?_ (inA 3 (by omega)).1 (inA 3 (by omega)).2 (by omega) (by omega) (by omega) hcells
    unfold f__law_names b__law_names
    rw [eL, hs0]
    generalize hR : namesR _ n m5 = R
    simp -implicitDefEqProofs [-kLc_, pn__law_names, e1, hq, hqa, hqb, hna, hnb, e2, hL, e3, e4, e5, eF, eM, eA, eT, atI, ixN, LIM, hn9]
    rw [← hR]
    exact caseA (bb := 3) (by omega) p0 (by omega) (by decide) (by decide) hz hn2
  · refine names_end (m' := m5) (gA st at_ f 5) ?_ (inA 5 (by omega)).1 (inA 5 (by omega)).2 (by omega) (by omega) (by omega) hcells
    unfold f__law_names b__law_names
    rw [eL, hs0]
    generalize hR : namesR _ n m5 = R
    simp -implicitDefEqProofs [-kLc_, pn__law_names, e1, hq, hqa, hqb, hna, hnb, e2, hL, e3, e4, e5, eF, eM, eA, eT, atI, ixN, LIM, hn9]
    rw [← hR]
    exact caseA (bb := 5) (by omega) p0 (by omega) (by decide) (by decide) hz hn2
  · refine names_end (m' := m5) (fun k => wd.take (k + 9 - n)) ?_ inC.1 inC.2 (by omega) (by omega) (by omega) hcells
    unfold f__law_names b__law_names
    rw [eL, hs0]
    generalize hR : namesR _ n m5 = R
    simp -implicitDefEqProofs [-kLc_, pn__law_names, e1, hq, hqa, hqb, hna, hnb, e2, hL, e3, e4, e5, eF, eM, eA, eT, atI, ixN, LIM, hn9]
    rw [← hR, caseC (bb := 7) hwl (by decide) hz hn2 hn]
    simp [namesR]
  · refine names_end (m' := m5) (fun k => wd.drop k) ?_ inB.1 inB.2 (by omega) (by omega) (by omega) hcells
    unfold f__law_names b__law_names
    rw [eL, hs0]
    generalize hR : namesR _ n m5 = R
    simp -implicitDefEqProofs [-kLc_, pn__law_names, e1, hq, hqa, hqb, hna, hnb, e2, hL, e3, e4, e5, eF, eM, eA, eT, atI, ixN, LIM, hn9]
    rw [← hR, caseB (bb := 9) hwl (by decide) hz hn2]
    simp [namesR]
  · refine names_end (m' := m5) (fun k => wd.drop k) ?_ inB.1 inB.2 (by omega) (by omega) (by omega) hcells
    unfold f__law_names b__law_names
    rw [eL, hs0]
    generalize hR : namesR _ n m5 = R
    simp -implicitDefEqProofs [-kLc_, pn__law_names, e1, hq, hqa, hqb, hna, hnb, e2, hL, e3, e4, e5, eF, eM, eA, eT, atI, ixN, LIM, hn9]
    rw [← hR, caseB (bb := 11) hwl (by decide) hz hn2]
    simp [namesR]
end Pu
namespace Pu
open PySem L2 Lc Wk
theorem filt_map (ns : List Int) : (ns.filter fun n => decide ((1000000000000000000 : Int) ≤ n)).map D.int = ((ns.filter fun n => decide ((1000000000000000000 : Int) ≤ n))).map D.int := rfl
theorem begun_spec (ns : List Int) (h : ns.length ≤ 63) : ∃ m : MSt, f__law_begun [.fz (.scr ns)] = .ok (.ow (.om m)) [.no] ∧ m.left.length < 70 ∧ m.at_ = 0 := by
  refine ⟨⟨ns, ns.filter fun n => decide ((1000000000000000000 : Int) ≤ n), 0⟩, ?_, Nat.lt_of_le_of_lt (List.length_filter_le _ _) (by omega), rfl⟩
  have hp : D.powD (.int 10) (.int 18) = some (.int 1000000000000000000) := rfl
  have e : kLc [1] (gSet 1) (bV (eOp2 D.geD (oVar 1) (oV (eOp2 D.powD (oV (eC (.int 10))) (oV (eC (.int 18))))))) (eVar 1) (ns.map D.int) [.fz (.scr ns), .no] = .ok (.lst ((ns.filter fun n => decide ((1000000000000000000 : Int) ≤ n)).map D.int)) [.fz (.scr ns), .no] :=
    lc_map (g := D.int) ns (by simp) (by unfold LIM; omega) fun x _ => ⟨_, rfl, by simp, by simp [hp], fun _ => by simp⟩
  have hi : (D.scr ns).items? = some (ns.map D.int) := rfl
  have hl : listD (.scr ns) = some (.lst (ns.map D.int)) := rfl
  have h1 := ints_ints ns
  have h2 := ints_ints (ns.filter fun n => decide ((1000000000000000000 : Int) ≤ n))
  unfold f__law_begun b__law_begun
  simp [eOmNew, e, hi, hl, intsL, h1, h2]
theorem two_sorted (x y : Str) (hx : isWord x = true) (hy : isWord y = true) (h : x ≠ y) : ∃ a b, Two a b ∧ D.srtD (.lst [.str x, .str y]) = some (.lst [.str a, .str b]) := by
  have hne : x.cps.toList ≠ y.cps.toList := fun e => h (by
    rw [← S_of x, ← S_of y, e])
  by_cases hlt : y.cps.toList < x.cps.toList
  · have hn : ¬ x.cps.toList < y.cps.toList := fun e => List.lt_irrefl _ (List.lt_trans e hlt)
    exact ⟨y, x, ⟨hy, hx, hlt⟩, by simp [D.srtD, srtO, leS, hlt]⟩
  · have hn : x.cps.toList < y.cps.toList := by
      rcases List.le_iff_lt_or_eq.mp (List.not_lt.mp hlt) with h1 | h1
      · exact h1
      · exact absurd h1 hne
    exact ⟨x, y, ⟨hx, hy, hn⟩, by simp [D.srtD, srtO, leS, hlt]⟩
abbrev lawB : ES := (sSeq (sUn (gLstT [gSet 3, gSet 4]) (eOp1 D.srtD (oV (eFz (eCl f__law_names 2 0 (ordL [0, 1]) (rOwn 1 (rCons (eC (.int 2)) (rNil))) (rNil)))))) (sSeq (sSet (pn_law) 5 (D.noOm (eMk 0 f_Code___init__ 3 0 (ordL [0, 1, 2, 3]) (rCons (eTup (aCons (eVar 3) (aCons (eVar 4) (aNil)))) (rCons (eVar 3) (rCons (D.noOm (eLst (aCons (eTup (aCons (eVar 3) (aCons (eVar 4) (aCons (eC (.int 2)) (aNil))))) (aCons (eTup (aCons (eVar 4) (aCons (eVar 3) (aCons (eC (.int 3)) (aNil))))) (aNil))))) (rNil)))) (rNil)))) (sSeq (sIf (bOr (bNot (bV (eFz (eCl f__law_first_right 3 0 (ordL [0, 1, 2]) (rCons (eVar 3) (rCons (eVar 4) (rCons (eVar 5) (rNil)))) (rNil))))) (bNot (bV (eFz (eCl f__law_second_right 3 0 (ordL [0, 1, 2]) (rCons (eVar 3) (rCons (eVar 4) (rCons (eVar 5) (rNil)))) (rNil)))))) (sSeq (sRet (eC (.bl false))) (sNil)) (sNil)) (sNil))))
theorem law_loop (x0 : Sl) : ∀ (ds : List D) (m : MSt) (z2 z3 z4 z5 : Sl), m.left.length < 70 → 0 ≤ m.at_ → m.at_ + 20 * ds.length < 2 ^ 39 →
    ∃ ρ, sFor (gSet 2) lawB ds [x0, .ow (.om m), z2, z3, z4, z5] = .nx ρ
  | [], m, z2, z3, z4, z5, _, _, _ => ⟨_, rfl⟩
  | d :: ds, m, z2, z3, z4, z5, h1, h2, h3 => by
    have h3' : m.at_ + 20 * (ds.length + 1 : Nat) < 2 ^ 39 := h3
    obtain ⟨m1, xs, e, l1, nd, hw, a1, a2, a3, a4⟩ := names_spec m 2 (by decide) (by decide) h1 h2 (by omega)
    match xs, l1 with
    | [x, y], _ =>
    have hxy : x ≠ y := by simpa using nd
    obtain ⟨a, b, T, hs⟩ := two_sorted x y (hw x (by simp)) (hw y (by simp)) hxy
    have e : f__law_names [.ow (.om m), .fz (.int 2)] = .ok (.fz (.lst [.str x, .str y])) [.ow (.om m1), .no] := e
    have u1 := init_l T
    have u2 := first_ T
    have u3 := second_ T
    obtain ⟨ρ, ih⟩ := law_loop x0 ds m1 (.fz d) (.fz (.str a)) (.fz (.str b)) (.fz (view a b)) (by omega) (by omega) (by omega)
    refine ⟨ρ, ?_⟩
    simp [e, hs, u1, u2, u3, pn_law, LIM]
    exact ih
theorem pure_law (ns : List Int) (h : ns.length ≤ 63) : ∃ ρ, f_law [.fz (.scr ns)] = .ok (.fz (.bl true)) ρ := by
  obtain ⟨m, e, h1, h2⟩ := begun_spec ns h
  have hm : ∃ k : Nat, k ≤ 5 ∧ ∀ ρ, eiR1 (eOp2 D.addD (oV (eC (.int 1))) (oV (eB2 D.min2D (oV (eOp1 D.lenD (oVar 0))) (oV (eC (.int 4)))))) (.fz (.scr ns) :: ρ) = .ok (rangeD 0 k) (.fz (.scr ns) :: ρ) := by
    by_cases hl : (4 : Int) < (ns.length : Nat)
    · exact ⟨5, by omega, fun ρ => by simp -implicitDefEqProofs [D.min2D, hl]⟩
    · refine ⟨1 + ns.length, by omega, fun ρ => ?_⟩
      simp -implicitDefEqProofs [D.min2D, hl]
      rw [if_pos (by omega)]
      congr 2
  obtain ⟨k, hk, hr⟩ := hm
  have hrl : (rangeD 0 k).length = k := by rw [rangeD_0]; simp
  obtain ⟨ρ, el⟩ := law_loop (.fz (.scr ns)) (rangeD 0 k) m .no .no .no .no h1 (by omega) (by rw [hrl]; omega)
  have hr2 := hr [.ow (.om m), .no, .no, .no, .no]
  refine ⟨[.no], ?_⟩
  unfold f_law b_law
  simp -implicitDefEqProofs [-v_iR1, e, hr2, el, pn_law]
end Pu
namespace Wk
open PySem PySem.Spec PyProof.Rows L2 Lc Hd

theorem facts {P : Program} {w : World} {K : PySem.W.Frag} {h : Heap} {mg : Str → Option Value} {f : Addr} (X : K.In h) (G : h.Ns mainGlobals mg) (hfa : mg ("law" : Str) = some (.ref f)) (c : SaysX fa fc fn K) :
    ∃ fd : FuncData, (∀ (s : Shared) (v : Value), BindsTo s fd ⟨[v], []⟩ [("script", v)]) ∧ ∀ base : Heap, K.In base → base.Ns mainGlobals mg → FnOk P w K mg base CX0 29 f fd ["script"] (spF (Tc K) 1 f_law) := by
  have S : Sx K mg := ⟨h, X, G, c⟩
  obtain ⟨fd, F⟩ := df_law S
  have e := hfa.symm.trans (n_law S)
  cases e
  have b := FunD.bindsA (ps := ["script"]) F fun _ _ _ _ _ _ us hl => match us, hl with | [_], _ => rfl
  exact ⟨fd, fun s v => b s [v] rfl, fun base _ _ => ok_law S F⟩
end Wk
open PySem PySem.W PySem.Calls PyProof.Rows
theorem PySem.Challenge.cw_loopcuts_k71_calls_by_names_holds : PySem.Challenge.rw_loopcuts_k71_calls_by_names.Holds := by
  w_on; o_law
  refine HandSHeadRun.head_any (r := OpenLaw.row PySem.Challenge.rw_loopcuts_k71_calls_by_names) (q := view (OpenLaw.row PySem.Challenge.rw_loopcuts_k71_calls_by_names).prog [75]) (H := Hd.hk) (ob := Hd.ob) (M := 6000) (loose := Hd.loose) (d := HandSHeadRun.topDef (OpenLaw.row PySem.Challenge.rw_loopcuts_k71_calls_by_names).prog 75) (kwd := []) Hd.ob_eq
    (by kernel_rfl) (fun s => by kernel_rfl) Hd.run (by kernel_rfl) (by kernel_rfl) (by kernel_rfl) (by rfl) (by first | assumption | decide +kernel) (by decide +kernel) ⟨rfl, rfl, rfl, rfl, rfl, by decide +kernel⟩ ?hw ?hc
  case hw => w_witness2
  case hc =>
    refine L2.walk_ofE (l := PySem.Challenge.rw_loopcuts_k71_calls_by_names) (n := 63) (k := 29) (x := "script") (CX := L2.CX0) rfl (by decide) (by kernel_rfl) ⟨rfl, by decide, by decide⟩ ?F (fun _ _ _ _ z => z)
    intro w mg fa h Y G hmg0
    obtain ⟨K, KX, c⟩ := Y
    have hmg : mg ("law" : PySem.Str) = some (.ref fa) := by
      have e : (HandSHeadRun.topDef (OpenLaw.row PySem.Challenge.rw_loopcuts_k71_calls_by_names).prog 75).name = ("law" : PySem.Str) := by kernel_rfl
      rw [← e]
      exact hmg0
    obtain ⟨fd, hb, hF⟩ := Wk.facts (P := (PySem.Challenge.rw_loopcuts_k71_calls_by_names).prog) (w := w) KX G hmg c
    exact ⟨K, fd, _, KX, hb, fun H a ns hl hO hS => (Pu.pure_law ns hl).elim fun _ e => Lc.spF_law hO hS e, hF⟩
