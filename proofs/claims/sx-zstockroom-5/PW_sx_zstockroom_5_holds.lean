import PyProof.Rows.All
import Wide.All
import OpenK.AllK
import Wide.FinOn
import PyProof.TableCode
import OpenK.KRaise
import KE.KIntText
import KE.KWords
import PySem.Challenge.RW_sx_zstockroom_5
set_option Elab.async false
set_option genSizeOf false
set_option genInjectivity false
section
set_option Elab.async false
namespace Mine
open PySem PySem.W PySem.Calls PyProof.Rows

/-- the data that the two laws handle -/
inductive V where
  | none
  | bool (b : Bool)
  | int (i : Int)
  | str (x : PySem.Str)
  | tuple (ds : List V)
  | list (ds : List V)
  | dict (kvs : List (PySem.Str × V))

noncomputable def V.atom : V → Bool
  | .tuple _ | .list _ | .dict _ => false
  | _ => true

/-- a dict's size, its keys' sizes -/
noncomputable def Sz (kvs : List (PySem.Str × Value)) : Prop := kvs.length ≤ sizeLine ∧ ∀ p ∈ kvs, p.1.length ≤ sizeLine
mutual
/-- the value `v` lies in the heap as the datum; each object's address is `ok` -/
inductive R (P : Program × World) (ok : Addr → Prop) (h : Heap) : Value → V → Prop
  | none : R P ok h .none .none
  | bool (b : Bool) : R P ok h (.bool b) (.bool b)
  | int (i : Int) (t : Tok) : R P ok h (.int i t) (.int i)
  | str (x : PySem.Str) (t : Tok) : x.length ≤ sizeLine → R P ok h (.str x t) (.str x)
  | tuple {a : Addr} {o : Obj} {vs : List Value} {n : Nat} {ds : List V} : ok a → h.get? a = some o → o.cls = .type "tuple" → o.data = .seq vs.toArray n → vs.length ≤ sizeLine → RA P ok h vs ds → R P ok h (.ref a) (.tuple ds)
  | list {a : Addr} {o : Obj} {vs : List Value} {n : Nat} {ds : List V} : ok a → h.get? a = some o → o.cls = .type "list" → o.data = .seq vs.toArray n → vs.length ≤ sizeLine → RA P ok h vs ds → R P ok h (.ref a) (.list ds)
  | dict {a : Addr} {kvs : List (PySem.Str × Value)} {ds : List V} : ok a → h.DictOf (strKind P.1 P.2) a kvs → (a == sysModules) = false → RA P ok h (kvs.map (·.2)) ds → Sz kvs → R P ok h (.ref a) (.dict ((kvs.map (·.1)).zip ds))
inductive RA (P : Program × World) (ok : Addr → Prop) (h : Heap) : List Value → List V → Prop
  | nil : RA P ok h [] []
  | cons {v : Value} {vs : List Value} {d : V} {ds : List V} : R P ok h v d → RA P ok h vs ds → RA P ok h (v :: vs) (d :: ds)
end

/-- a list, a tuple, a dict -/
noncomputable def Held (o : Obj) : Prop := o.cls = .type "list" ∨ o.cls = .type "tuple" ∨ o.cls = .type "dict"
/-- all lists, tuples, dicts at ok addresses stay -/
noncomputable def UpAt (ok : Addr → Prop) (h h' : Heap) : Prop := ∀ b o, ok b → h.get? b = some o → Held o → h'.get? b = some o
theorem noFrame {o : Obj} {T : String} (h : o.cls = .type T) (hT : T ≠ "frame") : o.cls ≠ .type "frame" := fun q => by
  rw [h] at q; injection q with q; exact hT q

theorem Held.noFrame {o : Obj} (h : Held o) : o.cls ≠ .type "frame" := by
  rcases h with h | h | h <;> exact Mine.noFrame h (by decide)
theorem RA.mono {P : Program × World} {ok ok' : Addr → Prop} {h h' : Heap} (k : UpAt ok h h') (hk : ∀ b o, ok b → h.get? b = some o → ok' b) {vs : List Value} {ds : List V} (x : RA P ok h vs ds) : RA P ok' h' vs ds :=
  RA.rec (motive_1 := fun v d _ => R P ok' h' v d) (motive_2 := fun vs ds _ => RA P ok' h' vs ds) .none .bool .int .str
    (fun h0 h1 h2 h3 hs _ ih => .tuple (hk _ _ h0 h1) (k _ _ h0 h1 (.inr (.inl h2))) h2 h3 hs ih)
    (fun h0 h1 h2 h3 hs _ ih => .list (hk _ _ h0 h1) (k _ _ h0 h1 (.inl h2)) h2 h3 hs ih)
    (fun h0 h1 h2 _ hs ih => by
      obtain ⟨o, ho, hd⟩ := Heap.dictOf_iff.mp h1
      have hc : o.cls = .type "dict" := let ⟨_, _, hc, _⟩ := hd; hc.1
      exact .dict (hk _ _ h0 ho) (Heap.dictOf_iff.mpr ⟨o, k _ o h0 ho (.inr (.inr hc)), hd⟩) h2 ih hs)
    .nil (fun _ _ a b => .cons a b) x
theorem R.mono {P : Program × World} {ok ok' : Addr → Prop} {h h' : Heap} (k : UpAt ok h h') (hk : ∀ b o, ok b → h.get? b = some o → ok' b) {v : Value} {d : V} (x : R P ok h v d) : R P ok' h' v d := by
  cases RA.mono k hk (.cons x .nil) with
  | cons a _ => exact a
section
variable {P : Program × World} {ok ok' : Addr → Prop} {h h' : Heap} {v : Value} {d : V} {vs ws : List Value} {ds es : List V}
theorem R.weak (hk : ∀ b, ok b → ok' b) (r : R P ok h v d) : R P ok' h v d := r.mono (fun b o _ e _ => e) fun b _ x _ => hk b x
theorem RA.weak (hk : ∀ b, ok b → ok' b) (r : RA P ok h vs ds) : RA P ok' h vs ds := r.mono (fun b o _ e _ => e) fun b _ x _ => hk b x
theorem R.atom_any (r : R P ok h v d) (ha : d.atom = true) : R P ok' h' v d := by
  cases r with
  | none => exact .none
  | bool b => exact .bool b
  | int i t => exact .int i t
  | str x t hx => exact .str x t hx
  | tuple => cases ha
  | list => cases ha
  | dict => cases ha
theorem RA.length (r : RA P ok h vs ds) : vs.length = ds.length := by
  induction vs generalizing ds with
  | nil => cases r; rfl
  | cons v vs ih => cases r with | cons _ r => rw [List.length_cons, List.length_cons, ih r]
theorem RA.append (r : RA P ok h vs ds) (q : RA P ok h ws es) : RA P ok h (vs ++ ws) (ds ++ es) := by
  induction vs generalizing ds with
  | nil => cases r; exact q
  | cons v vs ih => cases r with | cons a r => exact .cons a (ih r)
theorem RA.one (r : R P ok h v d) : RA P ok h [v] [d] := .cons r .nil
theorem RA.take (r : RA P ok h vs ds) (k : Nat) : RA P ok h (vs.take k) (ds.take k) := by
  induction vs generalizing ds k with
  | nil => cases r; simp; exact .nil
  | cons v vs ih =>
    cases r with
    | cons a r =>
      cases k with
      | zero => exact .nil
      | succ k => exact .cons a (ih r k)
theorem RA.drop (r : RA P ok h vs ds) (k : Nat) : RA P ok h (vs.drop k) (ds.drop k) := by
  induction vs generalizing ds k with
  | nil => cases r; simp; exact .nil
  | cons v vs ih =>
    cases r with
    | cons a r =>
      cases k with
      | zero => exact .cons a r
      | succ k => exact ih r k
theorem RA.get (r : RA P ok h vs ds) {k : Nat} (hd : ds[k]? = some d) : ∃ v, vs[k]? = some v ∧ R P ok h v d := by
  induction vs generalizing ds k with
  | nil => cases r; simp at hd
  | cons v vs ih =>
    cases r with
    | cons a r =>
      cases k with
      | zero => simp at hd; subst hd; exact ⟨v, rfl, a⟩
      | succ k => exact ih r (by simpa using hd)
theorem RA.getV (r : RA P ok h vs ds) {k : Nat} (hv : vs[k]? = some v) : ∃ d, ds[k]? = some d ∧ R P ok h v d := by
  induction vs generalizing ds k with
  | nil => simp at hv
  | cons v' vs ih =>
    cases r with
    | cons a r =>
      cases k with
      | zero => simp at hv; subst hv; exact ⟨_, rfl, a⟩
      | succ k => exact ih r (by simpa using hv)
theorem RA.reverse (r : RA P ok h vs ds) : RA P ok h vs.reverse ds.reverse := by
  induction vs generalizing ds with
  | nil => cases r; exact .nil
  | cons v vs ih => cases r with | cons a r => rw [List.reverse_cons, List.reverse_cons]; exact (ih r).append (.one a)
end
end Mine
end

section
set_option Elab.async false
namespace Mine
open PySem PySem.W PySem.Calls PyProof.Rows

/-! ## the small language: what the bodies of the two laws say -/
inductive BOp where | add | mod | mul
inductive COp where | eq | ne | lt | gt | ge | isIn | notIn
inductive Mth where | strip | isprintable | isascii | isdigit | removeprefix | lstrip | startswith | split0 | split1 | join
mutual
inductive IE where
  | const (v : V)
  | var (x : String)
  | glob (x : String)
  | bin (op : BOp) (a b : IE)
  | neg (a : IE)
  | orv (a b : IE)
  | ife (t : TE) (a b : IE)
  | call (f : String) (args : List IE)
  | len (a : IE)
  | strOf (a : IE)
  | intOf (a : IE)
  | listOf (a : IE)
  | isinst (a : IE) (T : String)
  | meth (m : Mth) (o : IE) (args : List IE)
  | items (x : String)
  | firstKey (x : String)
  | index (a i : IE)
  | upto (a i : IE)
  | behind (a i : IE)
  | list (es : List IE)
  | tuple (es : List IE)
  | comp (elt : IE) (x : String) (it : It) (cond : Option TE)
  | fstr (ps : List FP)
inductive TE where
  | tt (e : IE)
  | cmp (op : COp) (a b : IE)
  | between (a b c : IE)
  | isNone (a : IE) (yes : Bool)
  | typeIs (a : IE) (T : String) (yes : Bool)
  | not (t : TE)
  | and (ts : List TE)
  | or (ts : List TE)
inductive FP where
  | lit (x : PySem.Str)
  | fmt (e : IE)
  | asc (e : IE)
inductive It where
  | plain (e : IE)
  | rev (e : IE)
  | enum (e : IE)
end
inductive IS where
  | assign (x : String) (e : IE)
  | unpack (xs : List String) (e : IE)
  | newAcc (x : String)
  | newTab (x : String)
  | append (x : String) (e : IE)
  | appendMut (x f t : String) (args : List IE)
  | setKey (t : String) (k v : IE)
  | popTo (y t : String) (k : IE)
  | popKey (t : String) (k : IE)
  | delKey (t : String) (k : IE)
  | ite (t : TE) (a b : List IS)
  | for1 (x : String) (it : It) (body : List IS)
  | forN (xs : List String) (it : It) (body : List IS)
  | ret (e : IE)
  | raise (e : IE)
  | tryStr (x : String) (e : IE) (y er : String)
  | tryLine (t₁ : TE) (x : String) (e₁ : IE) (t₂ : TE) (e₂ : IE) (m : IE) (number : String)
  | pickFirst (x y t : String)
  | cont
  | brk

/-! ## what it means -/
/-- the text of a ValueError; true: it has no context -/
abbrev Msg := PySem.Str × Bool
inductive Res (α : Type) where
  | ok (a : α)
  | exc (msg : Msg)
  | bad
noncomputable def Res.bind {α β : Type} : Res α → (α → Res β) → Res β
  | .ok a, f => f a
  | .exc m, _ => .exc m
  | .bad, _ => .bad
inductive Slot where
  | val (d : V) (f : Bool)
  | acc (ds : List V)
  | tab (kvs : List (PySem.Str × V))
  | gone
abbrev Frm := List (String × Slot)
noncomputable def upd (x : String) (sl : Slot) : Frm → Frm
  | [] => [(x, sl)]
  | (y, s) :: r => if y = x then (x, sl) :: r else (y, s) :: upd x sl r
inductive Fl where
  | next | cont | brk
  | ret (d : V) (f : Bool)
structure Rec where
  has : String → Bool
  ev : Frm → IE → Res (V × Bool)
  ts : Frm → TE → Res Bool
  ex : Frm → IS → Res (Fl × Frm)
  fn : String → List (V × Bool) → Res (V × Bool)
  fm : String → List (PySem.Str × V) → List (V × Bool) → Res ((V × Bool) × List (PySem.Str × V))
end Mine
end

section
set_option Elab.async false
namespace Mine
open PySem PySem.W PySem.Calls PyProof.Rows

/-- lengths that surely fit -/
noncomputable def lim : Nat := 1000000
noncomputable def truthV : V → Res Bool
  | .none => .ok false
  | .bool b => .ok b
  | .int i => .ok (i != 0)
  | .str x => .ok (x.length != 0)
  | .list ds => .ok (!ds.isEmpty)
  | _ => .bad
section
variable {α β : Type}
noncomputable def onInt (d : V) (f : Int → Res α) : Res α := match d with
  | .int i => f i
  | _ => .bad
noncomputable def onStr (d : V) (f : PySem.Str → Res α) : Res α := match d with
  | .str x => f x
  | _ => .bad
noncomputable def onList (d : V) (f : List V → Res α) : Res α := match d with
  | .list ds => f ds
  | _ => .bad
noncomputable def onTup (d : V) (f : List V → Res α) : Res α := match d with
  | .tuple ds => f ds
  | _ => .bad
noncomputable def onO (o : Option β) (f : β → Res α) : Res α := match o with
  | some b => f b
  | none => .bad
end
noncomputable def addV (u v : V × Bool) : Res V := match u.1 with
  | .int a => onInt v.1 fun b => .ok (.int (a + b))
  | .str a => onStr v.1 fun b => if a.length + b.length ≤ lim then .ok (.str (a ++ b)) else .bad
  | .list a => onList v.1 fun b => if (u.2 = true ∧ v.2 = true) ∧ a.length + b.length ≤ lim then .ok (.list (a ++ b)) else .bad
  | .tuple a => onTup v.1 fun b => if (u.2 = true ∧ v.2 = true) ∧ a.length + b.length ≤ lim ∧ a.length ≠ 0 ∧ b.length ≠ 0 then .ok (.tuple (a ++ b)) else .bad
  | _ => .bad
noncomputable def binV (o : BOp) (u v : V × Bool) : Res V := match o with
  | .add => addV u v
  | .mod => onInt u.1 fun a => onInt v.1 fun b => if b ≠ 0 then .ok (.int (a.fmod b)) else .bad
  | .mul => onStr u.1 fun a => onInt v.1 fun n => if 0 ≤ n ∧ a.length * n.toNat ≤ lim ∧ n ≤ 1000000 then .ok (.str (Txt.mul a n)) else .bad
mutual
noncomputable def V.py : V → Option PyData
  | .none => some .none
  | .bool b => some (.bool b)
  | .int i => some (.int i)
  | .str x => some (.str x)
  | .tuple ds => (V.pys ds).map .tuple
  | .list ds => (V.pys ds).map .list
  | _ => Option.none
noncomputable def V.pys : List V → Option (List PyData)
  | [] => some []
  | d :: ds => do let a ← V.py d; let b ← V.pys ds; pure (a :: b)
end
/-- == of two data -/
noncomputable def eqD (mk : List PyData → PyData) (a b : List V) : Res Bool := onO (V.pys a) fun p => onO (V.pys b) fun q => if SeqAt.shaped (mk p) ∧ SeqAt.shaped (mk q) then .ok (PyData.eqv (mk p) (mk q)) else .bad
noncomputable def eqV (d e : V) : Res Bool := match d with
  | .int a => onInt e fun b => .ok (a == b)
  | .str a => onStr e fun b => .ok (a == b)
  | .list a => onList e fun b => eqD .list a b
  | .tuple a => onTup e fun b => eqD .tuple a b
  | _ => .bad
/-- the strs of a list of strs -/
noncomputable def strsOf : List V → Option (List PySem.Str)
  | [] => some []
  | .str x :: r => (strsOf r).map (x :: ·)
  | _ => Option.none
noncomputable def inV (x y : V) : Res Bool := onStr x fun k => match y with
  | .list ds => onO (strsOf ds) fun ks => .ok (ks.any (· == k))
  | .dict kvs => .ok ((kvs.lookup k).isSome)
  | _ => .bad
noncomputable def ltV (f : Int → Int → Bool) (d e : V) : Res Bool := onInt d fun a => onInt e fun b => .ok (f a b)
noncomputable def cmpV (o : COp) (a b : V) : Res Bool := match o with
  | .eq => eqV a b
  | .ne => (eqV a b).bind fun r => .ok (!r)
  | .lt => ltV (fun a b => decide (a < b)) a b
  | .gt => ltV (fun a b => decide (a > b)) a b
  | .ge => ltV (fun a b => decide (a ≥ b)) a b
  | .isIn => inV a b
  | .notIn => (inV a b).bind fun r => .ok (!r)
noncomputable def lenV : V → Res Int
  | .str x => .ok (x.length : Int)
  | .list ds => .ok (ds.length : Int)
  | .tuple ds => .ok (ds.length : Int)
  | .dict kvs => .ok (kvs.length : Int)
  | _ => .bad
noncomputable def atV (ds : List V) (e : V) : Res V := onInt e fun i => if 0 ≤ i then onO ds[i.toNat]? .ok else .bad
noncomputable def indexV (d e : V) : Res V := match d with
  | .list ds => atV ds e
  | .tuple ds => atV ds e
  | .dict kvs => onStr e fun k => onO (kvs.lookup k) .ok
  | _ => .bad
noncomputable def arg0 (ds : List V) (r : Res V) : Res V := match ds with
  | [] => r
  | _ => .bad
noncomputable def arg1 (ds : List V) (f : V → Res V) : Res V := match ds with
  | [d] => f d
  | _ => .bad
noncomputable def methV (m : Mth) (x : PySem.Str) (ds : List V) : Res V := match m with
  | .strip => arg0 ds (.ok (.str (Txt.strip x)))
  | .isprintable => arg0 ds (.ok (.bool (Txt.isprintable x)))
  | .isascii => arg0 ds (.ok (.bool (Txt.isascii x)))
  | .isdigit => arg0 ds (.ok (.bool (Txt.isdigit x)))
  | .removeprefix => arg1 ds fun d => onStr d fun y => .ok (.str (Txt.removeprefix x y))
  | .lstrip => arg1 ds fun d => onStr d fun y => .ok (.str (Txt.lstripChars x y))
  | .startswith => arg1 ds fun d => onStr d fun y => .ok (.bool (Txt.startswith x y))
  | .split0 => arg0 ds (if x.length ≤ lim then .ok (.list ((Txt.words x).map .str)) else .bad)
  | .split1 => arg1 ds fun d => onStr d fun y => if x.length ≤ lim ∧ y.length ≠ 0 then .ok (.list ((Txt.split x y).map .str)) else .bad
  | .join => arg1 ds fun d => onList d fun es => onO (strsOf es) fun ks => if (ks.map (·.length)).sum + ks.length * x.length ≤ lim then .ok (.str (Txt.join x ks)) else .bad
noncomputable def typeV : V → Res String
  | .none => .ok "NoneType"
  | .bool _ => .ok "bool"
  | .int _ => .ok "int"
  | .str _ => .ok "str"
  | _ => .bad
noncomputable def instV (d : V) (T : String) : Res Bool := (typeV d).bind fun t => if T = "str" ∨ T = "int" ∨ T = "bool" then .ok (t == T || (t == "bool" && T == "int")) else .bad
noncomputable def ascEsc (c : Nat) : List Nat :=
  let hex (width : Nat) : List Nat := let d := (Nat.toDigits 16 c).map Char.toNat; List.replicate (width - d.length) 48 ++ d
  if c < 128 then [c] else if c < 256 then [92, 120] ++ hex 2 else if c < 65536 then [92, 117] ++ hex 4 else [92, 85] ++ hex 8
noncomputable def asciiText (x : PySem.Str) : PySem.Str := if (reprText x).cps.all (· < 128) then reprText x else ⟨(reprText x).cps.flatMap fun c => (ascEsc c).toArray⟩
end Mine
end

section
set_option Elab.async false
namespace Mine
open PySem PySem.W PySem.Calls PyProof.Rows

noncomputable def fzV (u : V × Bool) : Res V := if u.2 || u.1.atom then .ok u.1 else .bad
noncomputable def evs (r : Rec) (φ : Frm) : List IE → Res (List (V × Bool))
  | [] => .ok []
  | e :: es => (r.ev φ e).bind fun u => (evs r φ es).bind fun us => .ok (u :: us)
noncomputable def fzs : List (V × Bool) → Res (List V)
  | [] => .ok []
  | u :: us => (fzV u).bind fun d => (fzs us).bind fun ds => .ok (d :: ds)
/-- a dict filled with pairs, in their order -/
noncomputable def dictPut (kvs : List (PySem.Str × V)) (k : PySem.Str) (v : V) : List (PySem.Str × V) :=
  if kvs.any (fun kv => decide (kv.1 = k)) then kvs.map (fun kv => if kv.1 = k then (kv.1, v) else kv) else kvs ++ [(k, v)]
noncomputable def onTab {α : Type} (o : Option Slot) (f : List (PySem.Str × V) → Res α) : Res α := match o with
  | some (.tab kvs) => f kvs
  | _ => .bad
noncomputable def onAcc {α : Type} (o : Option Slot) (f : List V → Res α) : Res α := match o with
  | some (.acc ds) => f ds
  | _ => .bad
/-- what is walked over: a name that holds no cell of our own, or a value that may be kept -/
noncomputable def evIt (r : Rec) (φ : Frm) (e : IE) : Res (V × Bool) := match e with
  | .var x => match φ.lookup x with
    | some (.val d f) => .ok (d, f)
    | _ => .bad
  | e => (r.ev φ e).bind fun u => if u.2 then .ok u else .bad
noncomputable def iterI (r : Rec) (φ : Frm) : It → Res (List (V × Bool))
  | .plain e => (evIt r φ e).bind fun u => match u.1 with
    | .list ds => .ok (ds.map fun d => (d, u.2))
    | .tuple ds => .ok (ds.map fun d => (d, u.2))
    | _ => .bad
  | .rev e => (evIt r φ e).bind fun u => onList u.1 fun ds => .ok (ds.reverse.map fun d => (d, u.2))
  | .enum e => (evIt r φ e).bind fun u => onList u.1 fun ds => if ds.length ≤ lim then .ok (ds.zipIdx.map fun p => (.tuple [.int ((p.2 : Int) + 1), p.1], u.2)) else .bad
/-- the frozen data alone -/
noncomputable def Slot.kept : Slot → Slot
  | .val d f => .val d f
  | _ => .gone
noncomputable def vals (φ : Frm) : Frm := φ.map fun p => (p.1, p.2.kept)
noncomputable def condI (r : Rec) (φ : Frm) : Option TE → Res Bool
  | some t => r.ts φ t
  | none => .ok true
noncomputable def compI (r : Rec) (φ : Frm) (elt : IE) (x : String) (cond : Option TE) : List (V × Bool) → Res (List V)
  | [] => .ok []
  | u :: us => match condI r (upd x (.val u.1 u.2) φ) cond with
    | .ok true => match (r.ev (upd x (.val u.1 u.2) φ) elt).bind fzV with
      | .ok e => (compI r φ elt x cond us).bind fun es => .ok (e :: es)
      | _ => .bad
    | .ok false => compI r φ elt x cond us
    | _ => .bad
noncomputable def It.simple : It → Bool
  | .enum _ => false
  | _ => true
noncomputable def partI (r : Rec) (φ : Frm) : FP → Res PySem.Str
  | .lit x => .ok x
  | .fmt e => (r.ev φ e).bind fun u => match u.1 with
    | .int i => if i.natAbs < 2 ^ 100 then .ok (PySem.Str.ofString (toString i)) else .bad
    | .str x => .ok x
    | _ => .bad
  | .asc e => (r.ev φ e).bind fun u => onStr u.1 fun x => if (reprText x).length ≤ 100000 ∧ (asciiText x).length ≤ lim then .ok (asciiText x) else .bad
noncomputable def partsI (r : Rec) (φ : Frm) : PySem.Str → List FP → Res PySem.Str
  | out, [] => .ok out
  | out, p :: ps => (partI r φ p).bind fun x => if out.length + x.length ≤ lim then partsI r φ (out ++ x) ps else .bad

noncomputable def evI (consts : String → Option V) (r : Rec) (φ : Frm) : IE → Res (V × Bool)
  | .const v => .ok (v, true)
  | .var x => match φ.lookup x with
    | some (.val d f) => .ok (d, f)
    | some (.acc ds) => .ok (.list ds, false)
    | some (.tab kvs) => .ok (.dict kvs, false)
    | _ => .bad
  | .glob x => onO (consts x) fun d => .ok (d, true)
  | .bin op a b => (r.ev φ a).bind fun u => (r.ev φ b).bind fun v => (binV op u v).bind fun d => .ok (d, true)
  | .neg a => (r.ev φ a).bind fun u => onInt u.1 fun i => .ok (.int (-i), true)
  | .orv a b => (r.ev φ a).bind fun u => (truthV u.1).bind fun t => if t then .ok u else r.ev φ b
  | .ife t a b => (r.ts φ t).bind fun c => if c then r.ev φ a else r.ev φ b
  | .call f as => if r.has f then (evs r φ as).bind fun us => r.fn f us else .bad
  | .len a => (r.ev φ a).bind fun u => (lenV u.1).bind fun n => .ok (.int n, true)
  | .strOf a => (r.ev φ a).bind fun u => match u.1 with
    | .int i => if i.natAbs < 2 ^ 100 then .ok (.str (PySem.Str.ofString (toString i)), true) else .bad
    | .str x => .ok (.str x, true)
    | _ => .bad
  | .intOf a => (r.ev φ a).bind fun u => onStr u.1 fun x => if x.length ≤ 640 then onO (PySem.intText? x) fun n => .ok (.int n, true) else .bad
  | .listOf a => (r.ev φ a).bind fun u => onList u.1 fun ds => if u.2 = true ∧ ds.length ≤ lim then .ok (.list ds, true) else .bad
  | .isinst a T => (r.ev φ a).bind fun u => (instV u.1 T).bind fun b => .ok (.bool b, true)
  | .meth m o as => (r.ev φ o).bind fun u => onStr u.1 fun x => (evs r φ as).bind fun us => (methV m x (us.map (·.1))).bind fun d => .ok (d, true)
  | .items x => onTab (φ.lookup x) fun kvs => if kvs.length ≤ 1000 then .ok (.list (kvs.map fun p => .tuple [.str p.1, p.2]), true) else .bad
  | .firstKey x => onTab (φ.lookup x) fun kvs => onO kvs.head? fun p => if kvs.length ≤ 1001 then .ok (.str p.1, true) else .bad
  | .index a i => (r.ev φ a).bind fun u => (r.ev φ i).bind fun j => (indexV u.1 j.1).bind fun d => .ok (d, u.2)
  | .upto a i => (r.ev φ a).bind fun u => (r.ev φ i).bind fun j => onStr u.1 fun x => onInt j.1 fun n => if 0 ≤ n ∧ n < 2 ^ 60 then .ok (.str (Txt.slice x none (some n)), true) else .bad
  | .behind a i => (r.ev φ a).bind fun u => (r.ev φ i).bind fun j => onList u.1 fun ds => onInt j.1 fun n => if u.2 = true ∧ 0 ≤ n ∧ n < 2 ^ 60 ∧ ds.length ≤ lim then .ok (.list (ds.drop n.toNat), true) else .bad
  | .list es => (evs r φ es).bind fun us => (fzs us).bind fun ds => if ds.length ≤ lim then .ok (.list ds, true) else .bad
  | .tuple es => (evs r φ es).bind fun us => if us.length ≤ lim then .ok (.tuple (us.map (·.1)), us.all fun u => u.2 || u.1.atom) else .bad
  | .comp elt x it cond => if it.simple then (iterI r φ it).bind fun us => if us.length ≤ lim then (compI r (vals φ) elt x cond us).bind fun es => .ok (.list es, true) else .bad else .bad
  | .fstr ps => (partsI r φ PySem.Str.empty ps).bind fun x => .ok (.str x, true)

noncomputable def allI (r : Rec) (φ : Frm) : List TE → Res Bool
  | [] => .bad
  | [t] => r.ts φ t
  | t :: ts => (r.ts φ t).bind fun b => if b then allI r φ ts else .ok false
noncomputable def anyI (r : Rec) (φ : Frm) : List TE → Res Bool
  | [] => .bad
  | [t] => r.ts φ t
  | t :: ts => (r.ts φ t).bind fun b => if b then .ok true else anyI r φ ts
noncomputable def tsI (r : Rec) (φ : Frm) : TE → Res Bool
  | .tt e => (r.ev φ e).bind fun u => truthV u.1
  | .cmp op a b => (r.ev φ a).bind fun u => (r.ev φ b).bind fun v => cmpV op u.1 v.1
  | .between a b c => (r.ev φ a).bind fun u => (r.ev φ b).bind fun v => onInt u.1 fun x => onInt v.1 fun y => if x ≤ y then (r.ev φ c).bind fun z => onInt z.1 fun z => .ok (decide (y ≤ z)) else .ok false
  | .isNone a yes => (r.ev φ a).bind fun u => match u.1 with | .none => .ok yes | _ => .ok (!yes)
  | .typeIs a T yes => (r.ev φ a).bind fun u => (typeV u.1).bind fun t => .ok ((t == T) == yes)
  | .not t => (r.ts φ t).bind fun b => .ok (!b)
  | .and ts => allI r φ ts
  | .or ts => anyI r φ ts

noncomputable def blk (r : Rec) : Frm → List IS → Res (Fl × Frm)
  | φ, [] => .ok (.next, φ)
  | φ, i :: is => (r.ex φ i).bind fun p => match p.1 with
    | .next => blk r p.2 is
    | f => .ok (f, p.2)
noncomputable def updAll (f : Bool) : List String → List V → Frm → Res Frm
  | [], [], φ => .ok φ
  | x :: xs, d :: ds, φ => if f || d.atom then updAll f xs ds (upd x (.val d true) φ) else .bad
  | _, _, _ => .bad
noncomputable def bnd1 (x : String) (u : V × Bool) (φ : Frm) : Res Frm := (fzV u).bind fun d => .ok (upd x (.val d true) φ)
noncomputable def bndN (xs : List String) (u : V × Bool) (φ : Frm) : Res Frm := onTup u.1 fun ds => updAll u.2 xs ds φ
noncomputable def loopG (r : Rec) (bnd : V × Bool → Frm → Res Frm) (body : List IS) : Frm → List (V × Bool) → Res (Fl × Frm)
  | φ, [] => .ok (.next, φ)
  | φ, u :: us => (bnd u φ).bind fun φ' => (blk r φ' body).bind fun p => match p.1 with
    | .next => loopG r bnd body p.2 us
    | .cont => loopG r bnd body p.2 us
    | .brk => .ok (.next, p.2)
    | .ret d f => .ok (.ret d f, p.2)
noncomputable def freeze : Frm → Frm
  | [] => []
  | (x, .acc ds) :: r => (x, .val (.list ds) true) :: freeze r
  | p :: r => p :: freeze r
noncomputable def dictDel (k : PySem.Str) (kvs : List (PySem.Str × V)) : List (PySem.Str × V) := kvs.filter fun p => p.1 ≠ k
noncomputable def appI (r : Rec) (φ : Frm) (x : String) (e : IE) : Res (Fl × Frm) := onAcc (φ.lookup x) fun ds => (r.ev φ e).bind fun u => (fzV u).bind fun d => if ds.length < lim then .ok (.next, upd x (.acc (ds ++ [d])) φ) else .bad
noncomputable def raiseI (r : Rec) (φ : Frm) (e : IE) : Res (Fl × Frm) := (r.ev φ e).bind fun u => onStr u.1 fun m => .exc (m, true)
noncomputable def tryLineI (r : Rec) (φ : Frm) (t₁ : TE) (x : String) (e₁ : IE) (t₂ : TE) (e₂ m : IE) : Res (Fl × Frm) :=
  (r.ts φ t₁).bind fun b => if b then appI r φ x e₁ else (r.ts φ t₂).bind fun b => if b then appI r φ x e₂ else raiseI r φ m
noncomputable def exI (r : Rec) (φ : Frm) : IS → Res (Fl × Frm)
  | .assign x e => (r.ev φ e).bind fun u => (fzV u).bind fun d => .ok (.next, upd x (.val d true) φ)
  | .unpack xs e => (r.ev φ e).bind fun u => onTup u.1 fun ds => (updAll u.2 xs ds φ).bind fun φ' => .ok (.next, φ')
  | .newAcc x => match φ.lookup x with | none => .ok (.next, upd x (.acc []) φ) | some _ => .bad
  | .newTab x => match φ.lookup x with | none => .ok (.next, upd x (.tab []) φ) | some _ => .bad
  | .append x e => appI r φ x e
  | .appendMut x f t as => onAcc (φ.lookup x) fun ds => onTab (φ.lookup t) fun kvs => if x ≠ t ∧ r.has f = true then (evs r φ as).bind fun us => (fzs us).bind fun _ => (r.fm f kvs us).bind fun q => (fzV q.1).bind fun d =>
        if ds.length < lim then .ok (.next, upd x (.acc (ds ++ [d])) (upd t (.tab q.2) φ)) else .bad else .bad
  | .setKey t k v => onTab (φ.lookup t) fun kvs => (r.ev φ v).bind fun u => (r.ev φ k).bind fun j => onStr j.1 fun k => (fzV u).bind fun d => if kvs.length ≤ 1000 then .ok (.next, upd t (.tab (dictPut kvs k d)) φ) else .bad
  | .popTo y t k => onTab (φ.lookup t) fun kvs => (r.ev φ k).bind fun j => onStr j.1 fun k => onO (kvs.lookup k) fun d => if kvs.length ≤ 1000 then .ok (.next, upd y (.val d true) (upd t (.tab (dictDel k kvs)) φ)) else .bad
  | .popKey t k => onTab (φ.lookup t) fun kvs => (r.ev φ k).bind fun j => onStr j.1 fun k => onO (kvs.lookup k) fun _ => if kvs.length ≤ 1000 then .ok (.next, upd t (.tab (dictDel k kvs)) φ) else .bad
  | .delKey t k => onTab (φ.lookup t) fun kvs => (r.ev φ k).bind fun j => onStr j.1 fun k => onO (kvs.lookup k) fun _ => if kvs.length ≤ 1000 then .ok (.next, upd t (.tab (dictDel k kvs)) φ) else .bad
  | .ite t a b => (r.ts φ t).bind fun c => blk r φ (if c then a else b)
  | .for1 x it body => (iterI r φ it).bind fun us => loopG r (bnd1 x) body φ us
  | .forN xs it body => (iterI r φ it).bind fun us => loopG r (bndN xs) body φ us
  | .ret e => (r.ev (freeze φ) e).bind fun u => .ok (.ret u.1 u.2, φ)
  | .raise e => raiseI r φ e
  | .tryStr x e y er => match (r.ev φ e).bind fun u => (fzV u).bind fun d => .ok d with
    | .ok d => .ok (.next, upd x (.val d true) φ)
    | .exc m => .ok (.next, upd y (.val (.str m.1) true) (upd er .gone φ))
    | .bad => .bad
  | .tryLine t₁ x e₁ t₂ e₂ m n => match tryLineI r φ t₁ x e₁ t₂ e₂ m with
    | .exc m => match φ.lookup n with
      | some (.val (.int i) _) => if i.natAbs < 2 ^ 60 ∧ m.1.length ≤ 100000 ∧ m.2 = true then .exc (PySem.Str.ofString "line " ++ PySem.Str.ofString (toString i) ++ PySem.Str.ofString ": " ++ m.1, false) else .bad
      | _ => .bad
    | z => z
  | .pickFirst x y t => onTab (φ.lookup t) fun kvs => match kvs with
    | [] => .ok (.next, φ)
    | p :: _ => if x ≠ t ∧ y ≠ t then .ok (.next, upd y (.val (.str p.1) true) (upd x (.val (.str p.1) true) φ)) else .bad
  | .cont => .ok (.cont, φ)
  | .brk => .ok (.brk, φ)
abbrev Tbl := String → Option (List String × List IS)
noncomputable def fnI (tbl : Tbl) (r : Rec) (f : String) (us : List (V × Bool)) : Res (V × Bool) := match tbl f with
  | some (ps, body) => if ps.length = us.length then (blk r (ps.zip (us.map fun u => .val u.1 u.2)) body).bind fun p => match p.1 with
      | .ret d f => .ok (d, f)
      | .next => .ok (.none, true)
      | _ => .bad
    else .bad
  | none => .bad
noncomputable def fmI (tbl : Tbl) (r : Rec) (f : String) (kvs : List (PySem.Str × V)) (us : List (V × Bool)) : Res ((V × Bool) × List (PySem.Str × V)) := match tbl f with
  | some (p0 :: ps, body) => if ps.length = us.length then
      match blk r ((p0, .tab kvs) :: ps.zip (us.map fun u => .val u.1 u.2)) body with
      | .ok p => match p.2.lookup p0 with
        | some (.tab kvs') => match p.1 with
          | .ret d f => .ok ((d, f), kvs')
          | .next => .ok ((.none, true), kvs')
          | _ => .bad
        | _ => .bad
      | _ => .bad
    else .bad
  | _ => .bad
noncomputable def recN (tbl : Tbl) (consts : String → Option V) : Nat → Rec
  | 0 => ⟨fun _ => false, fun _ _ => .bad, fun _ _ => .bad, fun _ _ => .bad, fun _ _ => .bad, fun _ _ _ => .bad⟩
  | n + 1 => ⟨fun f => (tbl f).isSome, evI consts (recN tbl consts n), tsI (recN tbl consts n), exI (recN tbl consts n), fnI tbl (recN tbl consts n), fmI tbl (recN tbl consts n)⟩
end Mine
end

section
set_option Elab.async false
namespace Mine.L5
open Mine
noncomputable def b_check_name : List IS := [.ite (.not (.tt (.isinst (.var "text") "str"))) [.raise (.const (.str (PySem.Str.ofString "a name must be text")))] [],
  .ite (.or [.cmp .eq (.var "text") (.const (.str (PySem.Str.ofString ""))),
  .cmp .ne (.var "text") (.meth .strip (.var "text") [])]) [.raise (.fstr [.lit (PySem.Str.ofString "a name may not be empty, nor begin or end with a space: "),
  .asc (.var "text")])] [],
  .ite (.cmp .gt (.len (.var "text")) (.glob "MAX_NAME")) [.raise (.fstr [.lit (PySem.Str.ofString "a name may have at most "),
  .fmt (.glob "MAX_NAME"),
  .lit (PySem.Str.ofString " characters")])] [],
  .ite (.not (.tt (.meth .isprintable (.var "text") []))) [.raise (.fstr [.lit (PySem.Str.ofString "a name may hold printable characters only: "),
  .asc (.var "text")])] [],
  .ret (.var "text")]
noncomputable def b_check_number : List IS := [.ite (.or [.not (.tt (.isinst (.var "value") "int")),
  .tt (.isinst (.var "value") "bool")]) [.raise (.const (.str (PySem.Str.ofString "a number must be whole")))] [],
  .ite (.not (.between (.var "lowest") (.var "value") (.glob "MAX_NUMBER"))) [.raise (.fstr [.lit (PySem.Str.ofString "a number must lie between "),
  .fmt (.var "lowest"),
  .lit (PySem.Str.ofString " and "),
  .fmt (.glob "MAX_NUMBER")])] [],
  .ret (.var "value")]
noncomputable def b_parse_number : List IS := [.assign "digits" (.meth .removeprefix (.var "text") [.const (.str (PySem.Str.ofString "-"))]),
  .ite (.not (.and [.tt (.meth .isascii (.var "digits") []),
  .tt (.meth .isdigit (.var "digits") [])])) [.raise (.fstr [.lit (PySem.Str.ofString "not a whole number: "),
  .asc (.upto (.var "text") (.const (.int 40)))])] [],
  .ite (.cmp .gt (.len (.meth .lstrip (.var "digits") [.const (.str (PySem.Str.ofString "0"))])) (.len (.strOf (.glob "MAX_NUMBER")))) [.raise (.fstr [.lit (PySem.Str.ofString "a number must lie between "),
  .fmt (.var "lowest"),
  .lit (PySem.Str.ofString " and "),
  .fmt (.glob "MAX_NUMBER")])] [],
  .assign "value" (.intOf (.orv (.meth .lstrip (.var "digits") [.const (.str (PySem.Str.ofString "0"))]) (.const (.str (PySem.Str.ofString "0"))))),
  .ret (.call "check_number" [.ife (.tt (.meth .startswith (.var "text") [.const (.str (PySem.Str.ofString "-"))])) (.neg (.var "value")) (.var "value"),
  .var "lowest"])]
noncomputable def b_parse_count : List IS := [.ret (.call "parse_number" [.var "text",
  .const (.int 1)])]
noncomputable def b_parse_signed : List IS := [.ret (.call "parse_number" [.var "text",
  .neg (.glob "MAX_NUMBER")])]
noncomputable def b_read_trace : List IS := [.newAcc "ops",
  .forN ["number", "line"] (.enum (.meth .split1 (.var "text") [.const (.str (PySem.Str.ofString "\n"))])) [.assign "words" (.meth .split0 (.var "line") []),
  .ite (.or [.not (.tt (.var "words")),
  .tt (.meth .startswith (.index (.var "words") (.const (.int 0))) [.const (.str (PySem.Str.ofString "#"))])]) [.cont] [],
  .tryLine (.and [.cmp .eq (.index (.var "words") (.const (.int 0))) (.const (.str (PySem.Str.ofString "get"))),
  .cmp .eq (.len (.var "words")) (.const (.int 2))]) "ops" (.tuple [.const (.str (PySem.Str.ofString "get")),
  .call "check_name" [.index (.var "words") (.const (.int 1))],
  .const (.int 0)]) (.and [.cmp .eq (.index (.var "words") (.const (.int 0))) (.const (.str (PySem.Str.ofString "put"))),
  .cmp .eq (.len (.var "words")) (.const (.int 3))]) (.tuple [.const (.str (PySem.Str.ofString "put")),
  .call "check_name" [.index (.var "words") (.const (.int 1))],
  .call "parse_signed" [.index (.var "words") (.const (.int 2))]]) (.const (.str (PySem.Str.ofString "expected 'get KEY' or 'put KEY VALUE'"))) "number"],
  .ret (.var "ops")]
noncomputable def b_cache_get : List IS := [.ite (.cmp .notIn (.var "key") (.var "cache")) [.ret (.const .none)] [],
  .popTo "value" "cache" (.var "key"),
  .setKey "cache" (.var "key") (.var "value"),
  .ret (.var "value")]
noncomputable def b_cache_put : List IS := [.assign "dropped" (.const (.str (PySem.Str.ofString ""))),
  .ite (.cmp .isIn (.var "key") (.var "cache")) [.popKey "cache" (.var "key")] [.ite (.cmp .ge (.len (.var "cache")) (.var "capacity")) [.assign "dropped" (.firstKey "cache"),
  .delKey "cache" (.var "dropped")] []],
  .setKey "cache" (.var "key") (.var "value"),
  .ret (.var "dropped")]
noncomputable def b_cache_put_fast : List IS := [.assign "dropped" (.const (.str (PySem.Str.ofString ""))),
  .ite (.cmp .isIn (.var "key") (.var "cache")) [.popKey "cache" (.var "key")] [.ite (.cmp .ge (.len (.var "cache")) (.var "capacity")) [.pickFirst "oldest" "dropped" "cache",
  .delKey "cache" (.var "dropped")] []],
  .setKey "cache" (.var "key") (.var "value"),
  .ret (.var "dropped")]
noncomputable def b_plain_get : List IS := [.assign "hits" (.comp (.var "pair") "pair" (.plain (.var "pairs")) (some (.cmp .eq (.index (.var "pair") (.const (.int 0))) (.var "key")))),
  .assign "rest" (.comp (.var "pair") "pair" (.plain (.var "pairs")) (some (.cmp .ne (.index (.var "pair") (.const (.int 0))) (.var "key")))),
  .ite (.cmp .eq (.var "hits") (.list [])) [.ret (.tuple [.var "rest",
  .const .none])] [],
  .ret (.tuple [.bin .add (.var "rest") (.var "hits"),
  .index (.index (.var "hits") (.const (.int 0))) (.const (.int 1))])]
noncomputable def b_plain_put : List IS := [.assign "rest" (.comp (.var "pair") "pair" (.plain (.var "pairs")) (some (.cmp .ne (.index (.var "pair") (.const (.int 0))) (.var "key")))),
  .assign "dropped" (.const (.str (PySem.Str.ofString ""))),
  .ite (.cmp .ge (.len (.var "rest")) (.var "capacity")) [.assign "dropped" (.index (.index (.var "rest") (.const (.int 0))) (.const (.int 0))),
  .assign "rest" (.behind (.var "rest") (.const (.int 1)))] [],
  .ret (.tuple [.bin .add (.var "rest") (.list [.tuple [.var "key",
  .var "value"]]),
  .var "dropped"])]
noncomputable def b_play_cache : List IS := [.newTab "cache",
  .newAcc "gave",
  .for1 "op" (.plain (.var "ops")) [.ite (.cmp .eq (.index (.var "op") (.const (.int 0))) (.const (.str (PySem.Str.ofString "get")))) [.appendMut "gave" "cache_get" "cache" [.index (.var "op") (.const (.int 1))]] [.appendMut "gave" "cache_put" "cache" [.index (.var "op") (.const (.int 1)),
  .index (.var "op") (.const (.int 2)),
  .var "capacity"]]],
  .ret (.tuple [.var "gave",
  .items "cache"])]
noncomputable def b_play_cache_fast : List IS := [.newTab "cache",
  .newAcc "gave",
  .for1 "op" (.plain (.var "ops")) [.ite (.cmp .eq (.index (.var "op") (.const (.int 0))) (.const (.str (PySem.Str.ofString "get")))) [.appendMut "gave" "cache_get" "cache" [.index (.var "op") (.const (.int 1))]] [.appendMut "gave" "cache_put_fast" "cache" [.index (.var "op") (.const (.int 1)),
  .index (.var "op") (.const (.int 2)),
  .var "capacity"]]],
  .ret (.tuple [.var "gave",
  .items "cache"])]
noncomputable def b_play_model : List IS := [.assign "pairs" (.list []),
  .newAcc "gave",
  .for1 "op" (.plain (.var "ops")) [.ite (.cmp .eq (.index (.var "op") (.const (.int 0))) (.const (.str (PySem.Str.ofString "get")))) [.unpack ["pairs", "answer"] (.call "plain_get" [.var "pairs",
  .index (.var "op") (.const (.int 1))])] [.unpack ["pairs", "answer"] (.call "plain_put" [.var "pairs",
  .index (.var "op") (.const (.int 1)),
  .index (.var "op") (.const (.int 2)),
  .var "capacity"])],
  .append "gave" (.var "answer")],
  .ret (.tuple [.var "gave",
  .var "pairs"])]
noncomputable def b_law_line : List IS := [.assign "k" (.bin .mod (.var "kind") (.const (.int 12))),
  .assign "name" (.index (.tuple [.const (.str (PySem.Str.ofString "a")),
  .const (.str (PySem.Str.ofString "#b")),
  .const (.str (PySem.Str.ofString "\u00e9")),
  .bin .mul (.const (.str (PySem.Str.ofString "n"))) (.const (.int 200))]) (.bin .mod (.var "a") (.const (.int 4)))),
  .assign "deeds" (.list []),
  .assign "why" (.const (.str (PySem.Str.ofString ""))),
  .ite (.cmp .lt (.var "k") (.const (.int 4))) [.assign "body" (.bin .add (.bin .add (.const (.str (PySem.Str.ofString "get"))) (.index (.var "lay") (.const (.int 1)))) (.var "name")),
  .assign "deeds" (.list [.tuple [.const (.str (PySem.Str.ofString "get")),
  .var "name",
  .const (.int 0)]])] [.ite (.cmp .lt (.var "k") (.const (.int 10))) [.assign "value" (.index (.glob "_law_values") (.bin .mod (.var "b") (.const (.int 9)))),
  .assign "body" (.bin .add (.bin .add (.bin .add (.bin .add (.const (.str (PySem.Str.ofString "put"))) (.index (.var "lay") (.const (.int 1)))) (.var "name")) (.index (.var "lay") (.const (.int 1)))) (.index (.var "value") (.const (.int 0)))),
  .assign "deeds" (.list [.tuple [.const (.str (PySem.Str.ofString "put")),
  .var "name",
  .index (.var "value") (.const (.int 1))]])] [.ite (.cmp .lt (.var "k") (.const (.int 11))) [.assign "body" (.index (.glob "_law_noise") (.bin .mod (.var "a") (.const (.int 4))))] [.assign "rows" (.bin .add (.glob "_law_bad") (.tuple [.tuple [.bin .add (.const (.str (PySem.Str.ofString "get "))) (.bin .mul (.const (.str (PySem.Str.ofString "n"))) (.const (.int 201))),
  .const (.str (PySem.Str.ofString "a name may have at most 200 characters"))]])),
  .assign "body" (.index (.index (.var "rows") (.bin .mod (.var "a") (.const (.int 12)))) (.const (.int 0))),
  .assign "why" (.index (.index (.var "rows") (.bin .mod (.var "a") (.const (.int 12)))) (.const (.int 1)))]]],
  .ret (.tuple [.bin .add (.bin .add (.index (.var "lay") (.const (.int 0))) (.var "body")) (.index (.var "lay") (.const (.int 2))),
  .var "deeds",
  .var "why"])]
noncomputable def b_law_read : List IS := [.assign "got" (.const .none),
  .assign "why" (.const (.str (PySem.Str.ofString ""))),
  .tryStr "got" (.call "read_trace" [.var "text"]) "why" "error",
  .ret (.tuple [.var "got",
  .var "why"])]
noncomputable def b_law_room : List IS := [.assign "got" (.const .none),
  .assign "why" (.const (.str (PySem.Str.ofString ""))),
  .tryStr "got" (.call "parse_count" [.var "text"]) "why" "error",
  .ret (.tuple [.var "got",
  .var "why"])]
noncomputable def b_law_word : List IS := [.assign "got" (.const .none),
  .assign "why" (.const (.str (PySem.Str.ofString ""))),
  .tryStr "got" (.call "check_name" [.var "text"]) "why" "error",
  .ret (.tuple [.var "got",
  .var "why"])]
noncomputable def b_law_number : List IS := [.assign "got" (.const .none),
  .assign "why" (.const (.str (PySem.Str.ofString ""))),
  .tryStr "got" (.call "check_number" [.var "value",
  .const (.int 1)]) "why" "error",
  .ret (.tuple [.var "got",
  .var "why"])]
noncomputable def b_law_held : List IS := [.assign "held" (.list []),
  .for1 "touch" (.rev (.var "log")) [.ite (.and [.cmp .lt (.len (.var "held")) (.var "room"),
  .cmp .notIn (.index (.var "touch") (.const (.int 0))) (.comp (.index (.var "h") (.const (.int 0))) "h" (.plain (.var "held")) none)]) [.assign "held" (.bin .add (.list [.var "touch"]) (.var "held"))] []],
  .ret (.var "held")]
noncomputable def b_law_replay : List IS := [.assign "log" (.list []),
  .assign "gave" (.list []),
  .for1 "deed" (.plain (.var "deeds")) [.assign "before" (.call "_law_held" [.var "log",
  .var "room"]),
  .ite (.cmp .eq (.index (.var "deed") (.const (.int 0))) (.const (.str (PySem.Str.ofString "get")))) [.assign "found" (.comp (.var "touch") "touch" (.plain (.var "before")) (some (.cmp .eq (.index (.var "touch") (.const (.int 0))) (.index (.var "deed") (.const (.int 1)))))),
  .assign "log" (.bin .add (.var "log") (.var "found")),
  .assign "answer" (.const .none),
  .for1 "touch" (.plain (.var "found")) [.assign "answer" (.index (.var "touch") (.const (.int 1)))]] [.assign "log" (.bin .add (.var "log") (.list [.tuple [.index (.var "deed") (.const (.int 1)),
  .index (.var "deed") (.const (.int 2))]])),
  .assign "names" (.comp (.index (.var "h") (.const (.int 0))) "h" (.plain (.call "_law_held" [.var "log",
  .var "room"])) none),
  .assign "answer" (.const (.str (PySem.Str.ofString ""))),
  .for1 "touch" (.plain (.var "before")) [.ite (.cmp .notIn (.index (.var "touch") (.const (.int 0))) (.var "names")) [.assign "answer" (.index (.var "touch") (.const (.int 0)))] []]],
  .assign "gave" (.bin .add (.var "gave") (.list [.var "answer"]))],
  .ret (.tuple [.var "gave",
  .call "_law_held" [.var "log",
  .var "room"]])]
noncomputable def b_law : List IS := [.ite (.cmp .lt (.len (.var "script")) (.const (.int 24))) [.ret (.const (.bool true))] [],
  .assign "row" (.index (.glob "_law_rooms") (.bin .mod (.index (.var "script") (.const (.int 0))) (.const (.int 12)))),
  .assign "got" (.call "_law_room" [.index (.var "row") (.const (.int 0))]),
  .ite (.cmp .ne (.var "got") (.tuple [.index (.var "row") (.const (.int 1)),
  .index (.var "row") (.const (.int 2))])) [.ret (.const (.bool false))] [],
  .assign "room" (.const (.int 2)),
  .ite (.isNone (.index (.var "row") (.const (.int 1))) false) [.ite (.typeIs (.index (.var "got") (.const (.int 0))) "int" false) [.ret (.const (.bool false))] [],
  .assign "room" (.index (.var "got") (.const (.int 0)))] [],
  .assign "lay" (.index (.glob "_law_layouts") (.bin .mod (.index (.var "script") (.const (.int 1))) (.const (.int 3)))),
  .assign "lines" (.list [.call "_law_line" [.index (.var "script") (.const (.int 2)),
  .index (.var "script") (.const (.int 3)),
  .index (.var "script") (.const (.int 4)),
  .var "lay"],
  .call "_law_line" [.index (.var "script") (.const (.int 5)),
  .index (.var "script") (.const (.int 6)),
  .index (.var "script") (.const (.int 7)),
  .var "lay"],
  .call "_law_line" [.index (.var "script") (.const (.int 8)),
  .index (.var "script") (.const (.int 9)),
  .index (.var "script") (.const (.int 10)),
  .var "lay"],
  .call "_law_line" [.index (.var "script") (.const (.int 11)),
  .index (.var "script") (.const (.int 12)),
  .index (.var "script") (.const (.int 13)),
  .var "lay"],
  .call "_law_line" [.index (.var "script") (.const (.int 14)),
  .index (.var "script") (.const (.int 15)),
  .index (.var "script") (.const (.int 16)),
  .var "lay"],
  .call "_law_line" [.index (.var "script") (.const (.int 17)),
  .index (.var "script") (.const (.int 18)),
  .index (.var "script") (.const (.int 19)),
  .var "lay"],
  .call "_law_line" [.index (.var "script") (.const (.int 20)),
  .index (.var "script") (.const (.int 21)),
  .index (.var "script") (.const (.int 22)),
  .var "lay"]]),
  .assign "deeds" (.list []),
  .assign "ops" (.list []),
  .assign "due" (.const (.str (PySem.Str.ofString ""))),
  .assign "at" (.const (.int 0)),
  .for1 "line" (.plain (.var "lines")) [.assign "at" (.bin .add (.var "at") (.const (.int 1))),
  .assign "got" (.call "_law_read" [.index (.var "line") (.const (.int 0))]),
  .ite (.cmp .eq (.index (.var "line") (.const (.int 2))) (.const (.str (PySem.Str.ofString "")))) [.ite (.cmp .ne (.var "got") (.tuple [.index (.var "line") (.const (.int 1)),
  .const (.str (PySem.Str.ofString ""))])) [.ret (.const (.bool false))] [],
  .assign "ops" (.bin .add (.var "ops") (.index (.var "got") (.const (.int 0)))),
  .assign "deeds" (.bin .add (.var "deeds") (.index (.var "line") (.const (.int 1))))] [.ite (.cmp .ne (.var "got") (.tuple [.const .none,
  .bin .add (.const (.str (PySem.Str.ofString "line 1: "))) (.index (.var "line") (.const (.int 2)))])) [.ret (.const (.bool false))] [],
  .ite (.cmp .eq (.var "due") (.const (.str (PySem.Str.ofString "")))) [.assign "due" (.bin .add (.bin .add (.bin .add (.const (.str (PySem.Str.ofString "line "))) (.strOf (.var "at"))) (.const (.str (PySem.Str.ofString ": ")))) (.index (.var "line") (.const (.int 2))))] []]],
  .assign "want" (.tuple [.var "deeds",
  .const (.str (PySem.Str.ofString ""))]),
  .ite (.cmp .ne (.var "due") (.const (.str (PySem.Str.ofString "")))) [.assign "want" (.tuple [.const .none,
  .var "due"])] [],
  .ite (.cmp .ne (.call "_law_read" [.meth .join (.const (.str (PySem.Str.ofString "\n"))) [.comp (.index (.var "x") (.const (.int 0))) "x" (.plain (.var "lines")) none]]) (.var "want")) [.ret (.const (.bool false))] [],
  .for1 "op" (.plain (.var "ops")) [.ite (.typeIs (.index (.var "op") (.const (.int 2))) "int" false) [.ret (.const (.bool false))] []],
  .assign "kept" (.listOf (.var "deeds")),
  .assign "fast" (.call "play_cache_fast" [.var "ops",
  .var "room"]),
  .assign "plain" (.call "play_cache" [.var "deeds",
  .var "room"]),
  .assign "model" (.call "play_model" [.var "deeds",
  .var "room"]),
  .ite (.cmp .ne (.var "ops") (.var "kept")) [.ret (.const (.bool false))] [],
  .ite (.cmp .ne (.var "deeds") (.var "kept")) [.ret (.const (.bool false))] [],
  .assign "ends" (.call "_law_replay" [.var "kept",
  .var "room"]),
  .for1 "end" (.plain (.tuple [.var "fast",
  .var "plain",
  .var "model"])) [.ite (.cmp .ne (.var "end") (.var "ends")) [.ret (.const (.bool false))] [],
  .for1 "pair" (.plain (.index (.var "end") (.const (.int 1)))) [.ite (.typeIs (.index (.var "pair") (.const (.int 1))) "int" false) [.ret (.const (.bool false))] []],
  .for1 "answer" (.plain (.index (.var "end") (.const (.int 0)))) [.ite (.and [.isNone (.var "answer") false,
  .typeIs (.var "answer") "int" false,
  .typeIs (.var "answer") "str" false]) [.ret (.const (.bool false))] []]],
  .assign "word" (.index (.glob "_law_words") (.bin .mod (.index (.var "script") (.const (.int 23))) (.const (.int 5)))),
  .ite (.cmp .ne (.call "_law_word" [.index (.var "word") (.const (.int 0))]) (.tuple [.index (.var "word") (.const (.int 1)),
  .index (.var "word") (.const (.int 2))])) [.ret (.const (.bool false))] [],
  .assign "number" (.index (.glob "_law_numbers") (.bin .mod (.index (.var "script") (.const (.int 23))) (.const (.int 4)))),
  .assign "got" (.call "_law_number" [.index (.var "number") (.const (.int 0))]),
  .ite (.cmp .ne (.var "got") (.tuple [.index (.var "number") (.const (.int 1)),
  .index (.var "number") (.const (.int 2))])) [.ret (.const (.bool false))] [],
  .ite (.and [.cmp .eq (.index (.var "number") (.const (.int 2))) (.const (.str (PySem.Str.ofString ""))),
  .typeIs (.index (.var "got") (.const (.int 0))) "int" false]) [.ret (.const (.bool false))] [],
  .ret (.const (.bool true))]
noncomputable def tblL : List (String × List String × List IS) := [("check_name", ["text"], b_check_name),
  ("check_number", ["value", "lowest"], b_check_number),
  ("parse_number", ["text", "lowest"], b_parse_number),
  ("parse_count", ["text"], b_parse_count),
  ("parse_signed", ["text"], b_parse_signed),
  ("read_trace", ["text"], b_read_trace),
  ("cache_get", ["cache", "key"], b_cache_get),
  ("cache_put", ["cache", "key", "value", "capacity"], b_cache_put),
  ("cache_put_fast", ["cache", "key", "value", "capacity"], b_cache_put_fast),
  ("plain_get", ["pairs", "key"], b_plain_get),
  ("plain_put", ["pairs", "key", "value", "capacity"], b_plain_put),
  ("play_cache", ["ops", "capacity"], b_play_cache),
  ("play_cache_fast", ["ops", "capacity"], b_play_cache_fast),
  ("play_model", ["ops", "capacity"], b_play_model),
  ("_law_line", ["kind", "a", "b", "lay"], b_law_line),
  ("_law_read", ["text"], b_law_read),
  ("_law_room", ["text"], b_law_room),
  ("_law_word", ["text"], b_law_word),
  ("_law_number", ["value"], b_law_number),
  ("_law_held", ["log", "room"], b_law_held),
  ("_law_replay", ["deeds", "room"], b_law_replay),
  ("law", ["script"], b_law)]
noncomputable def tbl : Tbl := fun f => tblL.lookup f
noncomputable def conL : List (String × V) := [("MAX_NAME", (.int (200))),
  ("MAX_NUMBER", (.int (1000000000000000000))),
  ("_law_layouts", (.tuple [.tuple [.str (PySem.Str.ofString ""), .str (PySem.Str.ofString " "), .str (PySem.Str.ofString "")], .tuple [.str (PySem.Str.ofString " "), .str (PySem.Str.ofString "\t"), .str (PySem.Str.ofString "\r")], .tuple [.str (PySem.Str.ofString "\t"), .str (PySem.Str.ofString "  "), .str (PySem.Str.ofString " ")]])),
  ("_law_noise", (.tuple [.str (PySem.Str.ofString ""), .str (PySem.Str.ofString "# put a 1"), .str (PySem.Str.ofString " \t"), .str (PySem.Str.ofString "#")])),
  ("_law_values", (.tuple [.tuple [.str (PySem.Str.ofString "7"), .int (7)], .tuple [.str (PySem.Str.ofString "0"), .int (0)], .tuple [.str (PySem.Str.ofString "-3"), .int (-3)], .tuple [.str (PySem.Str.ofString "007"), .int (7)], .tuple [.str (PySem.Str.ofString "-0"), .int (0)], .tuple [.str (PySem.Str.ofString "-05"), .int (-5)], .tuple [.str (PySem.Str.ofString "1000000000000000000"), .int (1000000000000000000)], .tuple [.str (PySem.Str.ofString "-1000000000000000000"), .int (-1000000000000000000)], .tuple [.str (PySem.Str.ofString "0000000000000000000000005"), .int (5)]])),
  ("_law_bad", (.tuple [.tuple [.str (PySem.Str.ofString "take a"), .str (PySem.Str.ofString "expected 'get KEY' or 'put KEY VALUE'")], .tuple [.str (PySem.Str.ofString "get"), .str (PySem.Str.ofString "expected 'get KEY' or 'put KEY VALUE'")], .tuple [.str (PySem.Str.ofString "get a b"), .str (PySem.Str.ofString "expected 'get KEY' or 'put KEY VALUE'")], .tuple [.str (PySem.Str.ofString "put a"), .str (PySem.Str.ofString "expected 'get KEY' or 'put KEY VALUE'")], .tuple [.str (PySem.Str.ofString "put a 1 2"), .str (PySem.Str.ofString "expected 'get KEY' or 'put KEY VALUE'")], .tuple [.str (PySem.Str.ofString "put a 1000000000000000001"), .str (PySem.Str.ofString "a number must lie between -1000000000000000000 and 1000000000000000000")], .tuple [.str (PySem.Str.ofString "put a -1000000000000000001"), .str (PySem.Str.ofString "a number must lie between -1000000000000000000 and 1000000000000000000")], .tuple [.str (PySem.Str.ofString "put a 10000000000000000000"), .str (PySem.Str.ofString "a number must lie between -1000000000000000000 and 1000000000000000000")], .tuple [.str (PySem.Str.ofString "put a --7"), .str (PySem.Str.ofString "not a whole number: '--7'")], .tuple [.str (PySem.Str.ofString "put a \u0663"), .str (PySem.Str.ofString "not a whole number: '\\u0663'")], .tuple [.str (PySem.Str.ofString "get a\x7fb"), .str (PySem.Str.ofString "a name may hold printable characters only: 'a\\x7fb'")]])),
  ("_law_rooms", (.tuple [.tuple [.str (PySem.Str.ofString "1"), .int (1), .str (PySem.Str.ofString "")], .tuple [.str (PySem.Str.ofString "2"), .int (2), .str (PySem.Str.ofString "")], .tuple [.str (PySem.Str.ofString "3"), .int (3), .str (PySem.Str.ofString "")], .tuple [.str (PySem.Str.ofString "02"), .int (2), .str (PySem.Str.ofString "")], .tuple [.str (PySem.Str.ofString "003"), .int (3), .str (PySem.Str.ofString "")], .tuple [.str (PySem.Str.ofString "1000000000000000000"), .int (1000000000000000000), .str (PySem.Str.ofString "")], .tuple [.str (PySem.Str.ofString "0"), .none, .str (PySem.Str.ofString "a number must lie between 1 and 1000000000000000000")], .tuple [.str (PySem.Str.ofString "-1"), .none, .str (PySem.Str.ofString "a number must lie between 1 and 1000000000000000000")], .tuple [.str (PySem.Str.ofString "1000000000000000001"), .none, .str (PySem.Str.ofString "a number must lie between 1 and 1000000000000000000")], .tuple [.str (PySem.Str.ofString "\u0662"), .none, .str (PySem.Str.ofString "not a whole number: '\\u0662'")], .tuple [.str (PySem.Str.ofString ""), .none, .str (PySem.Str.ofString "not a whole number: ''")], .tuple [.str (PySem.Str.ofString "-"), .none, .str (PySem.Str.ofString "not a whole number: '-'")]])),
  ("_law_words", (.tuple [.tuple [.str (PySem.Str.ofString "a"), .str (PySem.Str.ofString "a"), .str (PySem.Str.ofString "")], .tuple [.str (PySem.Str.ofString ""), .none, .str (PySem.Str.ofString "a name may not be empty, nor begin or end with a space: ''")], .tuple [.str (PySem.Str.ofString " a"), .none, .str (PySem.Str.ofString "a name may not be empty, nor begin or end with a space: ' a'")], .tuple [.str (PySem.Str.ofString "a "), .none, .str (PySem.Str.ofString "a name may not be empty, nor begin or end with a space: 'a '")], .tuple [.int (7), .none, .str (PySem.Str.ofString "a name must be text")]])),
  ("_law_numbers", (.tuple [.tuple [.int (1), .int (1), .str (PySem.Str.ofString "")], .tuple [.bool true, .none, .str (PySem.Str.ofString "a number must be whole")], .tuple [.str (PySem.Str.ofString "1"), .none, .str (PySem.Str.ofString "a number must be whole")], .tuple [.int (0), .none, .str (PySem.Str.ofString "a number must lie between 1 and 1000000000000000000")]]))]
noncomputable def consts : String → Option V := fun x => conL.lookup x
end Mine.L5
end

section
set_option Elab.async false
namespace Mine
open PySem PySem.W PySem.Calls PyProof.Rows

/-! ## what stays -/
noncomputable def Kp (fs Y : List Addr) (h h' : Heap) : Prop := ∀ b o, h.get? b = some o → b ∉ Y → h'.get? b = some o ∨ (b ∈ fs ∧ o.cls = .type "frame" ∧ (∀ vs, o.data ≠ .fields vs) ∧ ∃ sl, h'.get? b = some { o with slots := sl })
section
variable {fs Y Y' : List Addr} {h h' h'' : Heap}
theorem Kp.refl : Kp fs Y h h := fun _ _ e _ => .inl e
theorem Kp.of_keeps (k : ∀ b o, h.get? b = some o → h'.get? b = some o) : Kp fs Y h h' := fun b o e _ => .inl (k b o e)
theorem Kp.of_same {a : Addr} (hs : Heap.SameBut a h h') (ha : a ∈ Y) : Kp fs Y h h' := fun b o e hb => .inl ((hs.2 b fun z => hb (z ▸ ha)).trans e)
theorem Kp.weak (k : Kp fs Y h h') (hY : ∀ b, b ∈ Y → b ∈ Y') : Kp fs Y' h h' := fun b o e hb => k b o e fun z => hb (hY b z)
theorem Kp.trans' (k : Kp fs Y h h') (q : Kp fs Y' h' h'') (hY : ∀ b o, h.get? b = some o → b ∈ Y' → b ∈ Y) : Kp fs Y h h'' := fun b o e hb => by
  rcases k b o e hb with e' | ⟨hm, hf, hn, sl, e'⟩
  · exact q b o e' fun z => hb (hY b o e z)
  · rcases q b _ e' (fun z => hb (hY b o e z)) with e'' | ⟨_, _, _, sl', e''⟩
    · exact .inr ⟨hm, hf, hn, sl, e''⟩
    · exact .inr ⟨hm, hf, hn, sl', e''⟩
theorem Kp.trans (k : Kp fs Y h h') (q : Kp fs Y h' h'') : Kp fs Y h h'' := k.trans' q fun _ _ _ z => z
theorem Kp.same {b : Addr} {o : Obj} (k : Kp fs Y h h') (e : h.get? b = some o) (hb : b ∉ Y) (hc : o.cls ≠ .type "frame") : h'.get? b = some o := by
  rcases k b o e hb with e' | ⟨_, hf, _⟩
  · exact e'
  · exact absurd hf hc
theorem Kp.up {ok : Addr → Prop} (k : Kp fs Y h h') (hk : ∀ b, ok b → b ∉ Y) : UpAt ok h h' := fun _ _ hb e hc => k.same e (hk _ hb) hc.noFrame
theorem Kp.slots (k : Kp fs [] h h') : h.UpToSlots h' := fun b o e _ => by
  rcases k b o e (by simp) with e' | ⟨_, _, _, e'⟩
  · exact ⟨o.slots, e'⟩
  · exact e'
theorem Kp.there {b : Addr} {o : Obj} (k : Kp fs Y h h') (e : h.get? b = some o) (hb : b ∉ Y) : ∃ sl, h'.get? b = some { o with slots := sl } := by
  rcases k b o e hb with e' | ⟨_, _, _, e'⟩
  · exact ⟨o.slots, e'⟩
  · exact e'
end

/-! ## where a def runs -/
structure Cx where
  env : Env
  A : Around
  stk : List Env
noncomputable def Cx.fs (c : Cx) : List Addr := c.stk.filterMap (·.frame)
noncomputable def Cx.own (c : Cx) : List Addr := c.env.locals :: c.env.cells.map (·.2)
structure Cx.Ok (c : Cx) (n : Nat) : Prop where
  kind : c.env.scope.kind = .function
  globals : c.env.globals = mainGlobals
  builtins : c.env.builtins = builtinsNs
  frames : c.A.frames = some c.stk
  handled : c.A.handled = none
  depth : c.A.depth + n < recursionLimit
  units : c.A.units + 8 * n + 200 < cLine
  cells : ∀ x, c.env.scope.names.lookup x = some .cell → ∃ k, c.env.cells.lookup x = some k
theorem Cx.Ok.le {c : Cx} {n m : Nat} (k : c.Ok n) (h : m ≤ n) : c.Ok m := ⟨k.kind, k.globals, k.builtins, k.frames, k.handled, by have := k.depth; omega, by have := k.units; omega, k.cells⟩

abbrev nm (x : String) : PySem.Str := PySem.Str.ofString x
theorem toNat_inj {a b : Char} (h : a.toNat = b.toNat) : a = b := by
  have : a.val = b.val := UInt32.toNat_inj.mp h
  cases a; cases b; simp at this; simp [this]
theorem nm_inj {x y : String} (h : nm x = nm y) : x = y := by
  unfold nm at h
  rw [PySem.Str.ofString_eq_toList, PySem.Str.ofString_eq_toList] at h
  have h1 : (x.toList.map Char.toNat).toArray = (y.toList.map Char.toNat).toArray := by injection h
  have h2 : x.toList.map Char.toNat = y.toList.map Char.toNat := by simpa using h1
  have h3 : x.toList = y.toList := List.map_inj_right (fun a b q => toNat_inj q) |>.mp h2
  exact String.toList_injective h3

/-! ## cells and slots -/
noncomputable def ListAt (h : Heap) (a : Addr) (vs : List Value) : Prop := ∃ o n, h.get? a = some o ∧ o.cls = .type "list" ∧ o.data = .seq vs.toArray n ∧ vs.length ≤ sizeLine
noncomputable def TabAt' (P : Program × World) (ok : Addr → Prop) (h : Heap) (a : Addr) (kvs : List (PySem.Str × V)) : Prop :=
  ∃ ps ds, h.DictOf (strKind P.1 P.2) a ps ∧ (a == sysModules) = false ∧ RA P ok h (ps.map (·.2)) ds ∧ Sz ps ∧ kvs = (ps.map (·.1)).zip ds
theorem ListAt.up {h h' : Heap} {a : Addr} {vs : List Value} (x : ListAt h a vs) (k : ∀ o, h.get? a = some o → o.cls ≠ .type "frame" → h'.get? a = some o) : ListAt h' a vs := by
  obtain ⟨o, n, e, hc, hd, hs⟩ := x
  exact ⟨_, n, k o e (noFrame hc (by decide)), hc, hd, hs⟩
theorem dict_up {P : Program × World} {h h' : Heap} {a : Addr} {ps : List (PySem.Str × Value)} (x : h.DictOf (strKind P.1 P.2) a ps) (k : ∀ o, h.get? a = some o → o.cls ≠ .type "frame" → h'.get? a = some o) : h'.DictOf (strKind P.1 P.2) a ps := by
  obtain ⟨o, ho, hd⟩ := Heap.dictOf_iff.mp x
  have hc : o.cls = .type "dict" := let ⟨_, _, hc, _⟩ := hd; hc.1
  exact Heap.dictOf_iff.mpr ⟨o, k o ho (noFrame hc (by decide)), hd⟩
theorem TabAt'.up {P : Program × World} {ok ok' : Addr → Prop} {h h' : Heap} {a : Addr} {kvs : List (PySem.Str × V)} (x : TabAt' P ok h a kvs) (k : ∀ o, h.get? a = some o → o.cls ≠ .type "frame" → h'.get? a = some o) (ku : UpAt ok h h') (hk : ∀ b, ok b → ok' b) : TabAt' P ok' h' a kvs := by
  obtain ⟨ps, ds, q1, q2, q3, q4, q5⟩ := x
  exact ⟨ps, ds, dict_up q1 k, q2, q3.mono ku fun b _ hb _ => hk b hb, q4, q5⟩
/-- a list of our own, as it was made -/
noncomputable def AccAt (h : Heap) (a : Addr) (vs : List Value) : Prop := h.PlainList a vs.toArray ∧ vs.length ≤ sizeLine
theorem AccAt.up {h h' : Heap} {a : Addr} {vs : List Value} (x : AccAt h a vs) (k : ∀ o, h.get? a = some o → o.cls ≠ .type "frame" → h'.get? a = some o) : AccAt h' a vs := ⟨let ⟨n, e⟩ := x.1; ⟨n, k _ e (noFrame rfl (by decide))⟩, x.2⟩
theorem AccAt.list {h : Heap} {a : Addr} {vs : List Value} (x : AccAt h a vs) : ListAt h a vs := let ⟨n, e⟩ := x.1; ⟨_, n, e, rfl, rfl, x.2⟩
noncomputable def SlotAt (P : Program × World) (E Y : List Addr) (Ω : List (String × Addr)) (h : Heap) (mv : Option Value) (x : String) : Slot → Prop
  | .val d f => ∃ v, mv = some v ∧ R P (fun a => (f = true → a ∉ E) ∧ a ∉ Y) h v d
  | .acc ds => ∃ a vs, Ω.lookup x = some a ∧ mv = some (.ref a) ∧ AccAt h a vs ∧ RA P (fun a => a ∉ E ∧ a ∉ Y) h vs ds
  | .tab kvs => ∃ a, Ω.lookup x = some a ∧ mv = some (.ref a) ∧ TabAt' P (fun a => a ∉ E ∧ a ∉ Y) h a kvs
  | .gone => True
/-- a name of the def's own -/
noncomputable def LName (sc : Scope) (x : String) : Prop := (sc.names.lookup (nm x) = some .local ∨ sc.names.lookup (nm x) = some .cell) ∧ (nm x == ("__debug__" : PySem.Str)) = false ∧ x ≠ ".0"
/-- what the name `x` holds, in the locals or in a cell -/
noncomputable def atName (c : Cx) (m cm : PySem.Str → Option Value) (x : PySem.Str) : Option Value :=
  match c.env.kindOf x with
  | some .local => m x
  | some .cell => cm x
  | some .free => cm x
  | _ => none
noncomputable def Cx.Y (c : Cx) (Ω : List (String × Addr)) : List Addr := c.own ++ Ω.map (·.2)
structure St (P : Program × World) (b0 : Heap) (c : Cx) (E : List Addr) (φ : Frm) (Ω : List (String × Addr)) (h : Heap) : Prop where
  stay : b0.StaysIn h
  ff : h.FunFrames b0 c.stk
  fc : ∀ b ∈ c.fs, ∃ o, h.get? b = some o ∧ o.cls = .type "frame"
  loc : ∃ m cm, h.Ns c.env.locals m ∧ (∀ n k, c.env.cells.lookup n = some k → h.IsCell k (cm n)) ∧ ∀ x sl, φ.lookup x = some sl → LName c.env.scope x → SlotAt P E (c.Y Ω) Ω h (atName c m cm (nm x)) x sl
  alive : ∀ a, a ∈ E ∨ a ∈ c.Y Ω → ∃ o, h.get? a = some o
  off : ∀ a, a ∈ E ∨ a ∈ c.Y Ω → b0.get? a = none

section
variable {P : Program × World} {b0 : Heap} {c : Cx} {E : List Addr} {φ : Frm} {Ω : List (String × Addr)} {h h' : Heap}
theorem stay_kp {fs : List Addr} {l : List Env} (hs : b0.StaysIn h) (hf : h.FunFrames b0 l) (hfs : ∀ b ∈ fs, b ∈ l.filterMap (·.frame)) (k : Kp fs [] h h') : b0.StaysIn h' := fun b o e => by
  rcases k b o (hs b o e) (by simp) with e' | ⟨hm, _⟩
  · exact e'
  · have := (hf.mem (hfs b hm)).1
    rw [e] at this; cases this
theorem ff_kp {fs Y : List Addr} {l : List Env} (hf : h.FunFrames b0 l) (k : Kp fs Y h h') (hY : ∀ b ∈ l.filterMap (·.frame), b ∉ Y) : h'.FunFrames b0 l := by
  induction l with
  | nil => trivial
  | cons e l ih =>
    obtain ⟨h1, ⟨L, o, h2, h3, h4, h5⟩, h6⟩ := hf
    have hL : L ∈ (e :: l).filterMap (·.frame) := List.mem_filterMap.mpr ⟨e, .head _, h2⟩
    obtain ⟨sl, e'⟩ := k.there h4 (hY L hL)
    refine ⟨h1, ⟨L, _, h2, h3, e', h5⟩, ih h6 fun b hb => hY b ?_⟩
    obtain ⟨x, hx, hxb⟩ := List.mem_filterMap.mp hb
    exact List.mem_filterMap.mpr ⟨x, .tail _ hx, hxb⟩
theorem fc_kp {fs Y fs' : List Addr} (hf : ∀ b ∈ fs, ∃ o, h.get? b = some o ∧ o.cls = .type "frame") (k : Kp fs' Y h h') (hY : ∀ b ∈ fs, b ∉ Y) : ∀ b ∈ fs, ∃ o, h'.get? b = some o ∧ o.cls = .type "frame" := fun b hb => by
  obtain ⟨o, e, hc⟩ := hf b hb
  obtain ⟨sl, e'⟩ := k.there e (hY b hb)
  exact ⟨_, e', hc⟩
theorem SlotAt.kp {Y : List Addr} {fs : List Addr} {mv : Option Value} {x : String} {sl : Slot} (s : SlotAt P E Y Ω h mv x sl) (k : Kp fs [] h h') : SlotAt P E Y Ω h' mv x sl := by
  have up : ∀ ok : Addr → Prop, UpAt ok h h' := fun ok => k.up fun _ _ => by simp
  cases sl with
  | val d f => obtain ⟨v, e, r⟩ := s; exact ⟨v, e, r.mono (up _) fun _ _ x _ => x⟩
  | acc ds =>
    obtain ⟨a, vs, h1, h2, h4, h5⟩ := s
    exact ⟨a, vs, h1, h2, h4.up fun o e hc => k.same e (by simp) hc, h5.mono (up _) fun _ _ x _ => x⟩
  | tab kvs =>
    obtain ⟨a, h1, h2, q⟩ := s
    exact ⟨a, h1, h2, q.up (fun o e hc => k.same e (by simp) hc) (up _) fun _ x => x⟩
  | gone => trivial
/-- an expression's work leaves the state as it was -/
theorem St.kp (s : St P b0 c E φ Ω h) (k : Kp c.fs [] h h') : St P b0 c E φ Ω h' := by
  obtain ⟨m, cm, h1, h2, h3⟩ := s.loc
  refine ⟨stay_kp s.stay s.ff (fun _ x => x) k, ff_kp s.ff k (by simp), fc_kp s.fc k (by simp), ⟨m, cm, ?_, fun n j e => ?_, fun x sl e hn => (h3 x sl e hn).kp k⟩, fun a ha => ?_, ?_⟩
  · exact k.slots.ns h1
  · obtain ⟨o, e', hd⟩ := h2 n j e
    obtain ⟨sl, e''⟩ := k.there e' (by simp)
    exact ⟨_, e'', hd⟩
  · obtain ⟨o, e⟩ := s.alive a ha
    obtain ⟨sl, e'⟩ := k.there e (by simp)
    exact ⟨_, e'⟩
  · exact s.off
end
end Mine
end

section
set_option Elab.async false
namespace Mine
open PySem PySem.W PySem.Calls PyProof.Rows

noncomputable def G {α : Type} (res : Res α) (post : α → Prop) (x : Msg → Prop) : Prop := match res with
  | .ok a => post a
  | .exc m => x m
  | .bad => False
theorem G.bind {α β : Type} {res : Res α} {f : α → Res β} {post : β → Prop} {x : Msg → Prop} (h : G (res.bind f) post x) : G res (fun a => G (f a) post x) x := by
  cases res with
  | ok a => exact h
  | exc m => exact h
  | bad => exact h
theorem G.mono {α : Type} {res : Res α} {post post' : α → Prop} {x x' : Msg → Prop} (h : G res post x) (hp : ∀ a, res = .ok a → post a → post' a) (hx : ∀ m, res = .exc m → x m → x' m) : G res post' x' := by
  cases res with
  | ok a => exact hp a rfl h
  | exc m => exact hx m rfl h
  | bad => exact h
theorem G.ite {α : Type} {p : Prop} [Decidable p] {a b : Res α} {post : α → Prop} {x : Msg → Prop} (h : G (if p then a else b) post x) : (p ∧ G a post x) ∨ (¬ p ∧ G b post x) := by
  by_cases q : p
  · rw [if_pos q] at h; exact .inl ⟨q, h⟩
  · rw [if_neg q] at h; exact .inr ⟨q, h⟩
theorem G.need {α : Type} {p : Prop} [Decidable p] {a : Res α} {post : α → Prop} {x : Msg → Prop} (h : G (if p then a else .bad) post x) : p ∧ G a post x := by
  rcases h.ite with h | h
  · exact h
  · exact h.2.elim
theorem G.onO {α β : Type} {o : Option β} {f : β → Res α} {post : α → Prop} {x : Msg → Prop} (h : G (onO o f) post x) : ∃ b, o = some b ∧ G (f b) post x := by
  cases o with
  | none => exact (show False from h).elim
  | some b => exact ⟨b, rfl, h⟩
theorem G.onInt {α : Type} {d : V} {f : Int → Res α} {post : α → Prop} {x : Msg → Prop} (h : G (onInt d f) post x) : ∃ i, d = .int i ∧ G (f i) post x := by
  cases d <;> first | exact ⟨_, rfl, h⟩ | exact (show False from h).elim
theorem G.onStr {α : Type} {d : V} {f : PySem.Str → Res α} {post : α → Prop} {x : Msg → Prop} (h : G (onStr d f) post x) : ∃ i, d = .str i ∧ G (f i) post x := by
  cases d <;> first | exact ⟨_, rfl, h⟩ | exact (show False from h).elim
theorem G.onList {α : Type} {d : V} {f : List V → Res α} {post : α → Prop} {x : Msg → Prop} (h : G (onList d f) post x) : ∃ i, d = .list i ∧ G (f i) post x := by
  cases d <;> first | exact ⟨_, rfl, h⟩ | exact (show False from h).elim
theorem G.onTup {α : Type} {d : V} {f : List V → Res α} {post : α → Prop} {x : Msg → Prop} (h : G (onTup d f) post x) : ∃ i, d = .tuple i ∧ G (f i) post x := by
  cases d <;> first | exact ⟨_, rfl, h⟩ | exact (show False from h).elim
theorem G.onTab {α : Type} {o : Option Slot} {f : List (PySem.Str × V) → Res α} {post : α → Prop} {x : Msg → Prop} (h : G (onTab o f) post x) : ∃ kvs, o = some (.tab kvs) ∧ G (f kvs) post x := by
  cases o with
  | none => exact (show False from h).elim
  | some sl => cases sl <;> first | exact ⟨_, rfl, h⟩ | exact (show False from h).elim
theorem G.onAcc {α : Type} {o : Option Slot} {f : List V → Res α} {post : α → Prop} {x : Msg → Prop} (h : G (onAcc o f) post x) : ∃ ds, o = some (.acc ds) ∧ G (f ds) post x := by
  cases o with
  | none => exact (show False from h).elim
  | some sl => cases sl <;> first | exact ⟨_, rfl, h⟩ | exact (show False from h).elim
theorem G.arg0 {ds : List V} {r : Res V} {post : V → Prop} {x : Msg → Prop} (h : G (arg0 ds r) post x) : ds = [] ∧ G r post x := by
  cases ds with
  | nil => exact ⟨rfl, h⟩
  | cons => exact (show False from h).elim
theorem G.arg1 {ds : List V} {f : V → Res V} {post : V → Prop} {x : Msg → Prop} (h : G (arg1 ds f) post x) : ∃ d, ds = [d] ∧ G (f d) post x := by
  cases ds with
  | nil => exact (show False from h).elim
  | cons d ds => cases ds with
    | nil => exact ⟨d, rfl, h⟩
    | cons => exact (show False from h).elim

/-- a ValueError with this text is on its way up, into the frames `l` -/
structure Fly (l : List Env) (h : Heap) (x : Addr) (msg : Msg) (h' : Heap) : Prop where
  fly : ∃ t tk, Heap.FlyingW (hideAll h (l.filterMap (·.frame))) l x (.type "ValueError") (.ref t) h' ∧ h'.TupAt t [.str msg.1 tk] ∧ (hideAll h (l.filterMap (·.frame))).get? t = none
  up : h.UpToSlots h'
  len : msg.1.length ≤ sizeLine
  ctx : msg.2 = true → ∃ o vs, h'.get? x = some o ∧ o.data = .fields vs ∧ vs[2]? = some .none
section
variable {l : List Env} {h h' h'' : Heap} {x : Addr} {msg : Msg}
theorem Fly.kp (f : Fly l h x msg h') (hd : ∀ b ∈ l.filterMap (·.frame), ∃ o, h.get? b = some o ∧ (∀ vs, o.data ≠ .fields vs)) (fc : ∀ b ∈ l.filterMap (·.frame), ∃ o, h.get? b = some o ∧ o.cls = .type "frame") : Kp (l.filterMap (·.frame)) [] h h' := fun b o e _ => by
  obtain ⟨t, tk, fl, _, _⟩ := f.fly
  by_cases hb : b ∈ l.filterMap (·.frame)
  · obtain ⟨o', e', hd⟩ := hd b hb
    obtain ⟨o'', e'', hc⟩ := fc b hb
    rw [e] at e' e''; cases e'; cases e''
    exact .inr ⟨hb, hc, hd, f.up b o e hd⟩
  · exact .inl (fl.1 b o (hideAll_get _ e hb))
theorem hide_stays {fs : List Addr} (k : Kp fs [] h h') : (hideAll h fs).StaysIn (hideAll h' fs) := fun b o e => by
  have e1 := of_hideAll _ e
  have hb : b ∉ fs := fun z => by rw [hideAll_none _ z] at e; cases e
  rcases k b o e1 (by simp) with e2 | ⟨hm, _⟩
  · exact hideAll_get _ e2 hb
  · exact absurd hm hb
theorem Fly.back (f : Fly l h' x msg h'') (k : Kp (l.filterMap (·.frame)) [] h h') : Fly l h x msg h'' := by
  obtain ⟨t, tk, fl, ht, hn⟩ := f.fly
  exact ⟨⟨t, tk, flyingW_base (hide_stays k) fl, ht, fresh_of_stays (hide_stays k) hn⟩, k.slots.trans f.up, f.len, f.ctx⟩
end

section
variable (P : Program × World) (c : Cx) (E : List Addr) (Ω : List (String × Addr)) (s : Shared)
noncomputable def EvPost (Q : Value → Shared → Prop) (u : V × Bool) : Prop := ∀ v h' tk, Kp c.fs [] s.heap h' → R P (fun a => u.2 = true → a ∉ E ∧ a ∉ c.Y Ω) h' v u.1 → Q v { s with heap := h', toks := tk }
noncomputable def TsPost (Q : Bool → Shared → Prop) (b : Bool) : Prop := ∀ h' tk, Kp c.fs [] s.heap h' → Q b { s with heap := h', toks := tk }
noncomputable def XPost (Ex : Value → Shared → Prop) (m : Msg) : Prop := ∀ x h' tk, Fly c.stk s.heap x m h' → Ex (.ref x) { s with heap := h', toks := tk }
end
section
variable {P : Program × World} {c : Cx} {E : List Addr} {Ω : List (String × Addr)} {s : Shared} {h₁ : Heap} {tk₁ : Nat}
theorem EvPost.step {Q : Value → Shared → Prop} {u : V × Bool} (H : EvPost P c E Ω s Q u) (k : Kp c.fs [] s.heap h₁) : EvPost P c E Ω { s with heap := h₁, toks := tk₁ } Q u :=
  fun v h' tk k' r => H v h' tk (k.trans k') r
theorem TsPost.step {Q : Bool → Shared → Prop} {b : Bool} (H : TsPost c s Q b) (k : Kp c.fs [] s.heap h₁) : TsPost c { s with heap := h₁, toks := tk₁ } Q b :=
  fun h' tk k' => H h' tk (k.trans k')
theorem XPost.step {Ex : Value → Shared → Prop} {m : Msg} (H : XPost c s Ex m) (k : Kp c.fs [] s.heap h₁) : XPost c { s with heap := h₁, toks := tk₁ } Ex m :=
  fun x h' tk f => H x h' tk (f.back k)
theorem EvPost.now {Q : Value → Shared → Prop} {u : V × Bool} {v : Value} {tk : Nat} (H : EvPost P c E Ω s Q u) (r : R P (fun a => u.2 = true → a ∉ E ∧ a ∉ c.Y Ω) s.heap v u.1) : Q v { s with toks := tk } := H v s.heap tk .refl r
theorem EvPost.here {Q : Value → Shared → Prop} {u : V × Bool} {v : Value} (H : EvPost P c E Ω s Q u) (r : R P (fun a => u.2 = true → a ∉ E ∧ a ∉ c.Y Ω) s.heap v u.1) : Q v s := H v s.heap s.toks .refl r
theorem TsPost.here {Q : Bool → Shared → Prop} {b : Bool} (H : TsPost c s Q b) : Q b s := H s.heap s.toks .refl
end
end Mine
end

section
set_option Elab.async false
namespace Mine
open PySem PySem.W PySem.Calls PyProof.Rows

inductive COpB : Operator → BOp → Prop
  | add : COpB .Add .add
  | mod : COpB .Mod .mod
  | mul : COpB .Mult .mul
inductive COpC : CmpOp → COp → Prop
  | eq : COpC .Eq .eq
  | ne : COpC .NotEq .ne
  | lt : COpC .Lt .lt
  | gt : COpC .Gt .gt
  | ge : COpC .GtE .ge
  | isIn : COpC .In .isIn
  | notIn : COpC .NotIn .notIn
inductive CMth : String → Nat → Mth → Prop
  | strip : CMth "strip" 0 .strip
  | isprintable : CMth "isprintable" 0 .isprintable
  | isascii : CMth "isascii" 0 .isascii
  | isdigit : CMth "isdigit" 0 .isdigit
  | removeprefix : CMth "removeprefix" 1 .removeprefix
  | lstrip : CMth "lstrip" 1 .lstrip
  | startswith : CMth "startswith" 1 .startswith
  | split0 : CMth "split" 0 .split0
  | split1 : CMth "split" 1 .split1
  | join : CMth "join" 1 .join
/-- a name that the def finds among the globals or the built-ins -/
noncomputable def GName (sc : Scope) (x : String) : Prop := sc.names.lookup (nm x) = some .globalImplicit ∧ (nm x == ("__debug__" : PySem.Str)) = false
noncomputable def relab (cs sc : Scope) : Scope := { cs with names := cs.names.map fun p => if p.2 == .free && sc.names.lookup p.1 == some .cell then (p.1, .cell) else (p.1, p.2) }
structure CompSc (cs sc : Scope) (x : String) : Prop where
  kind : cs.kind = .function
  nocell : ∀ y ∈ cs.names, y.2 ≠ .cell
  names : ∀ y ∈ cs.names, y.2 = .local → cs.names.lookup y.1 = some .local
  var : cs.names.lookup (nm x) = some .local
  free : ∀ y ∈ cs.names, y.2 = .free → sc.names.lookup y.1 = some .cell
  one : ∀ y ∈ cs.names, y.2 = .local → y.1 = nm x ∨ y.1 = nm ".0"
  nodbg : (nm x == ("__debug__" : PySem.Str)) = false
theorem and_ok {a b : Bool} (h : (a && b) = true) : a = true ∧ b = true := by
  cases a <;> cases b <;> first | exact ⟨rfl, rfl⟩ | cases h
noncomputable def lnB (sc : Scope) (x : String) : Bool := decide ((sc.names.lookup (nm x) = some .local ∨ sc.names.lookup (nm x) = some .cell) ∧ (nm x == ("__debug__" : PySem.Str)) = false ∧ x ≠ ".0")
theorem lnB_ok {sc : Scope} {x : String} (h : lnB sc x = true) : LName sc x := by
  unfold lnB at h
  exact of_decide_eq_true (p := _ ∧ _) h
noncomputable def loB (sc : Scope) (x : String) : Bool := decide (sc.names.lookup (nm x) = some .local ∧ (nm x == ("__debug__" : PySem.Str)) = false ∧ x ≠ ".0")
theorem loB_ok {sc : Scope} {x : String} (h : loB sc x = true) : sc.names.lookup (nm x) = some .local ∧ (nm x == ("__debug__" : PySem.Str)) = false ∧ x ≠ ".0" := of_decide_eq_true h
noncomputable def gnB (sc : Scope) (x : String) : Bool := decide (sc.names.lookup (nm x) = some .globalImplicit ∧ (nm x == ("__debug__" : PySem.Str)) = false)
theorem gnB_ok {sc : Scope} {x : String} (h : gnB sc x = true) : GName sc x := by
  unfold gnB at h
  exact of_decide_eq_true (p := _ ∧ _) h
noncomputable def csB (cs sc : Scope) (x : String) : Bool := decide (cs.kind = .function ∧ (∀ y ∈ cs.names, y.2 ≠ .cell) ∧ (∀ y ∈ cs.names, y.2 = .local → cs.names.lookup y.1 = some .local) ∧ cs.names.lookup (nm x) = some .local ∧
  (∀ y ∈ cs.names, y.2 = .free → sc.names.lookup y.1 = some .cell) ∧ (∀ y ∈ cs.names, y.2 = .local → y.1 = nm x ∨ y.1 = nm ".0") ∧ (nm x == ("__debug__" : PySem.Str)) = false)
theorem csB_ok {cs sc : Scope} {x : String} (h : csB cs sc x = true) : CompSc cs sc x := by
  obtain ⟨h1, h2, h3, h4, h5, h6, h7⟩ := of_decide_eq_true h
  exact ⟨h1, h2, h3, h4, h5, h6, h7⟩
noncomputable def opOf : BOp → Operator
  | .add => .Add
  | .mod => .Mod
  | .mul => .Mult
theorem opOf_ok (p : BOp) : COpB (opOf p) p := by
  cases p
  · exact .add
  · exact .mod
  · exact .mul
noncomputable def cmOf : COp → CmpOp
  | .eq => .Eq
  | .ne => .NotEq
  | .lt => .Lt
  | .gt => .Gt
  | .ge => .GtE
  | .isIn => .In
  | .notIn => .NotIn
theorem cmOf_ok (p : COp) : COpC (cmOf p) p := by
  cases p
  · exact .eq
  · exact .ne
  · exact .lt
  · exact .gt
  · exact .ge
  · exact .isIn
  · exact .notIn
noncomputable def mthN : Mth → String × Nat
  | .strip => ("strip", 0)
  | .isprintable => ("isprintable", 0)
  | .isascii => ("isascii", 0)
  | .isdigit => ("isdigit", 0)
  | .removeprefix => ("removeprefix", 1)
  | .lstrip => ("lstrip", 1)
  | .startswith => ("startswith", 1)
  | .split0 => ("split", 0)
  | .split1 => ("split", 1)
  | .join => ("join", 1)
theorem mthN_ok (m : Mth) : CMth (mthN m).1 (mthN m).2 m := by
  cases m
  · exact .strip
  · exact .isprintable
  · exact .isascii
  · exact .isdigit
  · exact .removeprefix
  · exact .lstrip
  · exact .startswith
  · exact .split0
  · exact .split1
  · exact .join
noncomputable def baseB : Expr → Bool
  | .Call .. => false
  | _ => true
theorem baseB_ok {o : Expr} {a : PySem.Str} (h : baseB o = true) (env : Env) : attributeBase o a env (eval o env) = eval o env := by
  cases o <;> first | rfl | cases h
noncomputable def testB : Expr → Bool
  | .UnaryOp .. => false
  | .BoolOp .. => false
  | .IfExp .. => false
  | .Compare .. => false
  | _ => true
theorem testB_ok {e : Expr} (h : testB e = true) (env : Env) (whole : Sem Value) : isTrue e env whole = (do let v ← whole; standAt e.pos; holding [v] (truthy v)) := by
  cases e <;> first | rfl | cases h
noncomputable def shortB (x : PySem.Str) : Bool := decide (x.length ≤ 100000)
theorem shortB_ok {x : PySem.Str} (h : shortB x = true) : x.length ≤ sizeLine := by
  have := of_decide_eq_true h
  rw [sizeLine_eq]; exact Nat.le_trans this (by decide)

inductive All2 {α β : Type} (P : α → β → Prop) : List α → List β → Prop
  | nil : All2 P [] []
  | cons {a as b bs} : P a b → All2 P as bs → All2 P (a :: as) (b :: bs)
theorem All2.length {α β : Type} {P : α → β → Prop} {as : List α} {bs : List β} (h : All2 P as bs) : as.length = bs.length := by
  induction h with
  | nil => rfl
  | cons _ _ ih => exact congrArg (· + 1) ih
/-! the text that a small program stands for: the places are taken from the text itself -/
noncomputable def look (e : Expr) : List Expr × Nat × Scope := match e with
  | .BoolOp _ vs _ => (vs, 0, default)
  | .BinOp l _ r _ => ([l, r], 0, default)
  | .UnaryOp _ x _ => ([x], 0, default)
  | .IfExp t a b _ => ([t, a, b], 0, default)
  | .ListComp e gs cs _ => (e :: gs.flatMap fun g => g.target :: g.iter :: g.ifs, 0, cs)
  | .Compare l _ rs _ => (l :: rs, 0, default)
  | .Call f as _ _ => (f :: as, 0, default)
  | .FormattedValue v _ _ _ => ([v], 0, default)
  | .JoinedStr vs _ => (vs, 0, default)
  | .Constant _ k _ => ([], k, default)
  | .Attribute v _ _ => ([v], 0, default)
  | .Subscript v s _ => ([v, s], 0, default)
  | .List es _ => (es, 0, default)
  | .Tuple es k _ => (es, k, default)
  | .Slice a b _ _ => (a.toList ++ b.toList, 0, default)
  | _ => ([], 0, default)
noncomputable def kid (n : Nat) (e : Expr) : Expr := (look e).1.getD n default
noncomputable def args (e : Expr) : List Expr := (look e).1.tail
noncomputable def zipW {α β : Type} [Inhabited α] (f : α → β → α) : List β → List α → List α
  | [], _ => []
  | i :: is, es => f (es.headD default) i :: zipW f is es.tail
noncomputable def zipB {α β : Type} [Inhabited α] (f : α → β → Bool) : List β → List α → Bool
  | [], _ => true
  | i :: is, es => f (es.headD default) i && zipB f is es.tail
theorem zip_len' {α β : Type} [Inhabited α] {f : α → β → α} {is : List β} : ∀ {es : List α}, (zipW f is es).length = is.length := by
  induction is with
  | nil => exact rfl
  | cons i is ih => exact congrArg (· + 1) ih
theorem zip_all {α β : Type} [Inhabited α] {f : α → β → α} {g : α → β → Bool} {P : α → β → Prop} (H : ∀ a i, f a i = a → g a i = true → P a i) {is : List β} : ∀ {es : List α}, zipW f is es = es → zipB g is es = true → All2 P (zipW f is es) is := by
  induction is with
  | nil => exact fun _ _ => .nil
  | cons i is ih =>
    intro es h b
    obtain ⟨b1, b2⟩ := and_ok b
    have h1 : f (es.headD default) i = es.headD default := congrArg (·.headD default) h
    have h2 : zipW f is es.tail = es.tail := congrArg (·.tail) h
    exact .cons (h1.symm ▸ H _ _ h1 b1) (ih h2 b2)
noncomputable def conOf : V → Const
  | .none => .none
  | .bool b => .bool b
  | .int i => .int i
  | .str x => .str x
  | _ => .ellipsis
noncomputable def conOk : V → Bool
  | .str x => shortB x
  | .tuple _ => false
  | .list _ => false
  | .dict _ => false
  | _ => true
noncomputable def callN (f : String) (e : Expr) (as : List Expr) : Expr := .Call (.Name (nm f) (kid 0 e).pos) as [] e.pos
/-- x.m(as) -/
noncomputable def callM (x m : String) (e : Expr) (as : List Expr) : Expr := .Call (.Attribute (.Name (nm x) (kid 0 (kid 0 e)).pos) (nm m) (kid 0 e).pos) as [] e.pos
noncomputable def lineM (e : Expr) : Bool := (kid 0 e).pos.endLine == e.pos.line
noncomputable def isW (yes : Bool) : CmpOp := if yes then .Is else .IsNot
mutual
noncomputable def toE : Nat → Expr → IE → Expr
  | 0, e, _ => e
  | n + 1, e, i => match i with
    | .const v => .Constant (conOf v) (look e).2.1 e.pos
    | .var x => .Name (nm x) e.pos
    | .glob x => .Name (nm x) e.pos
    | .bin op a b => .BinOp (toE n (kid 0 e) a) (opOf op) (toE n (kid 1 e) b) e.pos
    | .neg a => .UnaryOp .USub (toE n (kid 0 e) a) e.pos
    | .orv a b => .BoolOp .Or [toE n (kid 0 e) a, toE n (kid 1 e) b] e.pos
    | .ife t a b => .IfExp (toT n (kid 0 e) t) (toE n (kid 1 e) a) (toE n (kid 2 e) b) e.pos
    | .call f is => callN f e (zipW (toE n) is (args e))
    | .len a => callN "len" e [toE n (kid 1 e) a]
    | .strOf a => callN "str" e [toE n (kid 1 e) a]
    | .intOf a => callN "int" e [toE n (kid 1 e) a]
    | .listOf a => callN "list" e [toE n (kid 1 e) a]
    | .isinst a T => callN "isinstance" e [toE n (kid 1 e) a, .Name (nm T) (kid 2 e).pos]
    | .meth m a is => .Call (.Attribute (toE n (kid 0 (kid 0 e)) a) (nm (mthN m).1) (kid 0 e).pos) (zipW (toE n) is (args e)) [] e.pos
    | .items x => callN "list" e [callM x "items" (kid 1 e) []]
    | .firstKey x => .Subscript (callN "list" (kid 0 e) [callM x "keys" (kid 1 (kid 0 e)) []]) (.Constant (.int 0) (look (kid 1 e)).2.1 (kid 1 e).pos) e.pos
    | .index a i => .Subscript (toE n (kid 0 e) a) (toE n (kid 1 e) i) e.pos
    | .upto a i => .Subscript (toE n (kid 0 e) a) (.Slice none (some (toE n (kid 0 (kid 1 e)) i)) none (kid 1 e).pos) e.pos
    | .behind a i => .Subscript (toE n (kid 0 e) a) (.Slice (some (toE n (kid 0 (kid 1 e)) i)) none none (kid 1 e).pos) e.pos
    | .list is => .List (zipW (toE n) is (look e).1) e.pos
    | .tuple is => .Tuple (zipW (toE n) is (look e).1) (look e).2.1 e.pos
    | .comp ei x it cond => .ListComp (toE n (kid 0 e) ei) [⟨.Name (nm x) (kid 1 e).pos, toI n (kid 2 e) it, cond.toList.map (toT n (kid 3 e)), 0⟩] (look e).2.2 e.pos
    | .fstr ps => .JoinedStr (zipW (toF n) ps (look e).1) e.pos
noncomputable def toT : Nat → Expr → TE → Expr
  | 0, e, _ => e
  | n + 1, e, t => match t with
    | .tt i => toE n e i
    | .cmp op a b => .Compare (toE n (kid 0 e) a) [cmOf op] [toE n (kid 1 e) b] e.pos
    | .between a b d => .Compare (toE n (kid 0 e) a) [.LtE, .LtE] [toE n (kid 1 e) b, toE n (kid 2 e) d] e.pos
    | .isNone a yes => .Compare (toE n (kid 0 e) a) [isW yes] [.Constant .none (look (kid 1 e)).2.1 (kid 1 e).pos] e.pos
    | .typeIs a T yes => .Compare (callN "type" (kid 0 e) [toE n (kid 1 (kid 0 e)) a]) [isW yes] [.Name (nm T) (kid 1 e).pos] e.pos
    | .not t => .UnaryOp .Not (toT n (kid 0 e) t) e.pos
    | .and ts => .BoolOp .And (zipW (toT n) ts (look e).1) e.pos
    | .or ts => .BoolOp .Or (zipW (toT n) ts (look e).1) e.pos
noncomputable def toI : Nat → Expr → It → Expr
  | 0, e, _ => e
  | n + 1, e, i => match i with
    | .plain i => toE n e i
    | .rev i => callN "reversed" e [toE n (kid 1 e) i]
    | .enum i => callN "enumerate" e [toE n (kid 1 e) i, .Constant (.int 1) (look (kid 2 e)).2.1 (kid 2 e).pos]
noncomputable def toF : Nat → Expr → FP → Expr
  | 0, e, _ => e
  | n + 1, e, p => match p with
    | .lit x => .Constant (.str x) (look e).2.1 e.pos
    | .fmt i => .FormattedValue (toE n (kid 0 e) i) (-1) none e.pos
    | .asc i => .FormattedValue (toE n (kid 0 e) i) 97 none e.pos
end
noncomputable def condB (f : TE → Bool) : Option TE → Bool
  | none => true
  | some t => f t
mutual
noncomputable def okE : Nat → Scope → Expr → IE → Bool
  | 0, _, _, _ => false
  | n + 1, sc, e, i => match i with
    | .const v => conOk v
    | .var x => lnB sc x
    | .glob x => gnB sc x
    | .bin _ a b => okE n sc (kid 0 e) a && okE n sc (kid 1 e) b
    | .neg a => okE n sc (kid 0 e) a
    | .orv a b => okE n sc (kid 0 e) a && okE n sc (kid 1 e) b
    | .ife t a b => okT n sc (kid 0 e) t && (okE n sc (kid 1 e) a && okE n sc (kid 2 e) b)
    | .call f is => gnB sc f && zipB (okE n sc) is (args e)
    | .len a => gnB sc "len" && okE n sc (kid 1 e) a
    | .strOf a => gnB sc "str" && okE n sc (kid 1 e) a
    | .intOf a => gnB sc "int" && okE n sc (kid 1 e) a
    | .listOf a => gnB sc "list" && okE n sc (kid 1 e) a
    | .isinst a T => gnB sc "isinstance" && (gnB sc T && okE n sc (kid 1 e) a)
    | .meth m a is => decide (is.length = (mthN m).2) && (baseB (kid 0 (kid 0 e)) && (lineM e && (okE n sc (kid 0 (kid 0 e)) a && zipB (okE n sc) is (args e))))
    | .items x => gnB sc "list" && (lnB sc x && lineM (kid 1 e))
    | .firstKey x => gnB sc "list" && (lnB sc x && lineM (kid 1 (kid 0 e)))
    | .index a i => okE n sc (kid 0 e) a && okE n sc (kid 1 e) i
    | .upto a i => okE n sc (kid 0 e) a && okE n sc (kid 0 (kid 1 e)) i
    | .behind a i => okE n sc (kid 0 e) a && okE n sc (kid 0 (kid 1 e)) i
    | .list is => zipB (okE n sc) is (look e).1
    | .tuple is => zipB (okE n sc) is (look e).1
    | .comp ei x it cond => csB (look e).2.2 sc x && (okI n sc (kid 2 e) it && (okE n (relab (look e).2.2 sc) (kid 0 e) ei && condB (okT n (relab (look e).2.2 sc) (kid 3 e)) cond))
    | .fstr ps => decide (2 ≤ ps.length) && zipB (okF n sc) ps (look e).1
noncomputable def okT : Nat → Scope → Expr → TE → Bool
  | 0, _, _, _ => false
  | n + 1, sc, e, t => match t with
    | .tt i => testB e && okE n sc e i
    | .cmp _ a b => okE n sc (kid 0 e) a && okE n sc (kid 1 e) b
    | .between a b d => okE n sc (kid 0 e) a && (okE n sc (kid 1 e) b && okE n sc (kid 2 e) d)
    | .isNone a _ => okE n sc (kid 0 e) a
    | .typeIs a T _ => gnB sc "type" && (gnB sc T && (decide (T = "int" ∨ T = "str" ∨ T = "bool") && okE n sc (kid 1 (kid 0 e)) a))
    | .not t => okT n sc (kid 0 e) t
    | .and ts => zipB (okT n sc) ts (look e).1
    | .or ts => zipB (okT n sc) ts (look e).1
noncomputable def okI : Nat → Scope → Expr → It → Bool
  | 0, _, _, _ => false
  | n + 1, sc, e, i => match i with
    | .plain i => okE n sc e i
    | .rev i => gnB sc "reversed" && okE n sc (kid 1 e) i
    | .enum _ => false
noncomputable def okF : Nat → Scope → Expr → FP → Bool
  | 0, _, _, _ => false
  | n + 1, sc, e, p => match p with
    | .lit x => shortB x
    | .fmt i => okE n sc (kid 0 e) i
    | .asc i => okE n sc (kid 0 e) i
end
noncomputable def CE (sc : Scope) (e : Expr) (i : IE) : Prop := ∃ n, toE n e i = e ∧ okE n sc e i = true
noncomputable def CT (sc : Scope) (e : Expr) (i : TE) : Prop := ∃ n, toT n e i = e ∧ okT n sc e i = true
noncomputable def CI (sc : Scope) (e : Expr) (i : It) : Prop := ∃ n, toI n e i = e ∧ okI n sc e i = true
noncomputable def CF (sc : Scope) (e : Expr) (i : FP) : Prop := ∃ n, toF n e i = e ∧ okF n sc e i = true
abbrev CEs (sc : Scope) : List Expr → List IE → Prop := All2 (CE sc)
abbrev CTs (sc : Scope) : List Expr → List TE → Prop := All2 (CT sc)
abbrev CFs (sc : Scope) : List Expr → List FP → Prop := All2 (CF sc)
theorem CE.one {sc : Scope} {e : Expr} {i : IE} (h : CE sc e i) : ∃ n, toE (n + 1) e i = e ∧ okE (n + 1) sc e i = true := by
  obtain ⟨n, h1, h2⟩ := h
  cases n with
  | zero => cases h2
  | succ n => exact ⟨n, h1, h2⟩
theorem CT.one {sc : Scope} {e : Expr} {i : TE} (h : CT sc e i) : ∃ n, toT (n + 1) e i = e ∧ okT (n + 1) sc e i = true := by
  obtain ⟨n, h1, h2⟩ := h
  cases n with
  | zero => cases h2
  | succ n => exact ⟨n, h1, h2⟩
theorem CI.one {sc : Scope} {e : Expr} {i : It} (h : CI sc e i) : ∃ n, toI (n + 1) e i = e ∧ okI (n + 1) sc e i = true := by
  obtain ⟨n, h1, h2⟩ := h
  cases n with
  | zero => cases h2
  | succ n => exact ⟨n, h1, h2⟩
theorem CF.one {sc : Scope} {e : Expr} {i : FP} (h : CF sc e i) : ∃ n, toF (n + 1) e i = e ∧ okF (n + 1) sc e i = true := by
  obtain ⟨n, h1, h2⟩ := h
  cases n with
  | zero => cases h2
  | succ n => exact ⟨n, h1, h2⟩
section
variable {sc : Scope} {e : Expr} {n : Nat}
theorem mkE {i : IE} (h : toE n e i = e) (o : okE n sc e i = true) : CE sc (toE n e i) i := h.symm ▸ ⟨n, h, o⟩
theorem mkT {i : TE} (h : toT n e i = e) (o : okT n sc e i = true) : CT sc (toT n e i) i := h.symm ▸ ⟨n, h, o⟩
theorem mkI {i : It} (h : toI n e i = e) (o : okI n sc e i = true) : CI sc (toI n e i) i := h.symm ▸ ⟨n, h, o⟩
theorem mkEs {es : List Expr} {is : List IE} (h : zipW (toE n) is es = es) (o : zipB (okE n sc) is es = true) : CEs sc (zipW (toE n) is es) is := zip_all (fun _ _ h o => ⟨n, h, o⟩) h o
theorem mkTs {es : List Expr} {is : List TE} (h : zipW (toT n) is es = es) (o : zipB (okT n sc) is es = true) : CTs sc (zipW (toT n) is es) is := zip_all (fun _ _ h o => ⟨n, h, o⟩) h o
theorem mkFs {es : List Expr} {is : List FP} (h : zipW (toF n) is es = es) (o : zipB (okF n sc) is es = true) : CFs sc (zipW (toF n) is es) is := zip_all (fun _ _ h o => ⟨n, h, o⟩) h o
end
/-- no star, no slice, no set, no mark -/
structure PlainE (e : Expr) : Prop where
  star : ∀ rest env, starEach (e :: rest) env = (false, eval e env) :: starEach rest env
  subs : ∀ o v, subscripted e false o v = operate [o, v] (getItem o v)
  noSet : ∀ env v, foldedSetIterable e env v = pure v
  noMark : ∀ op, behindInMarks op e = false
theorem CE.plain {sc : Scope} {e : Expr} {i : IE} (h : CE sc e i) : PlainE e := by
  obtain ⟨n, h, _⟩ := h.one
  rw [← h]
  cases i <;> exact ⟨fun _ _ => rfl, fun _ _ => rfl, fun _ _ => rfl, fun _ => rfl⟩
theorem CE.star {sc : Scope} {e : Expr} {i : IE} (h : CE sc e i) (rest : List Expr) (env : Env) : starEach (e :: rest) env = (false, eval e env) :: starEach rest env := h.plain.star rest env
theorem CE.subs {sc : Scope} {e : Expr} {i : IE} (h : CE sc e i) (o v : Value) : subscripted e false o v = operate [o, v] (getItem o v) := h.plain.subs o v
theorem CE.noSet {sc : Scope} {e : Expr} {i : IE} (h : CE sc e i) (env : Env) (v : Value) : foldedSetIterable e env v = pure v := h.plain.noSet env v
theorem CE.noMark {sc : Scope} {e : Expr} {i : IE} (h : CE sc e i) (op : CmpOp) : behindInMarks op e = false := h.plain.noMark op
theorem CI.noSet {sc : Scope} {e : Expr} {i : It} (h : CI sc e i) (env : Env) (v : Value) : foldedSetIterable e env v = pure v := by
  obtain ⟨n, h, o⟩ := h.one
  cases i with
  | plain i => exact (show CE sc e i from ⟨n, h, o⟩).noSet _ _
  | _ => rw [← h]; rfl
theorem CE.var {sc : Scope} {x : String} {p : Pos} (h : LName sc x) : CE sc (.Name (nm x) p) (.var x) := ⟨1, rfl, decide_eq_true (p := _ ∧ _) h⟩
theorem CEs.add {sc : Scope} {e : Expr} {i : IE} {es : List Expr} {is : List IE} (a : CE sc e i) (b : CEs sc es is) : CEs sc (e :: es) (i :: is) := All2.cons a b
theorem CEs.plain {sc : Scope} {es : List Expr} {is : List IE} (h : CEs sc es is) (env : Env) (p : Pos) : (backTo p (starEach es env)).any (·.1) = false := by
  induction h with
  | nil => rfl
  | cons a _ ih => rw [a.star]; exact ih
end Mine
end

section
set_option Elab.async false
namespace Mine
open PySem PySem.W PySem.Calls PyProof.Rows

/-- what stands at the top, in the base heap -/
structure Stat (P : Program × World) (b0 : Heap) (mg mb : PySem.Str → Option Value) (consts : String → Option V) : Prop where
  g : b0.Ns mainGlobals mg
  b : b0.Ns builtinsNs mb
  nolimit : b0.NoLimit
  bi : ∀ x : PySem.Str, x ≠ "__name__" → mb x = bootBuiltins x
  free : ∀ x ∈ ["len", "str", "int", "list", "dict", "isinstance", "type", "bool", "reversed", "enumerate", "range", "ValueError"], mg (nm x) = none
  con : ∀ x d, consts x = some d → ∃ v, mg (nm x) = some v ∧ R P (fun _ => True) b0 v d

section
variable (prog : Program) (w : World) (b0 : Heap)
noncomputable def SEv (r : Rec) (n : Nat) : Prop := ∀ (c : Cx) (E : List Addr) (φ : Frm) (Ω : List (String × Addr)) (s : Shared) (e : Expr) (i : IE) (Q : Value → Shared → Prop) (Ex : Value → Shared → Prop),
  c.Ok n → St (prog, w) b0 c E φ Ω s.heap → CE c.env.scope e i → G (r.ev φ i) (EvPost (prog, w) c E Ω s Q) (XPost c s Ex) → wpAny (model prog w) c.A (eval e c.env) Q Ex s
noncomputable def STs (r : Rec) (n : Nat) : Prop := ∀ (c : Cx) (E : List Addr) (φ : Frm) (Ω : List (String × Addr)) (s : Shared) (e : Expr) (t : TE) (Q : Bool → Shared → Prop) (Ex : Value → Shared → Prop),
  c.Ok n → St (prog, w) b0 c E φ Ω s.heap → CT c.env.scope e t → G (r.ts φ t) (TsPost c s Q) (XPost c s Ex) → wpAny (model prog w) c.A (isTrue e c.env (eval e c.env)) Q Ex s
end

theorem R.any {P : Program × World} {ok : Addr → Prop} {h : Heap} {v : Value} {d : V} (r : R P ok h v d) : R P (fun _ => True) h v d := r.weak fun _ _ => trivial
theorem R.inv_int {P : Program × World} {ok : Addr → Prop} {h : Heap} {v : Value} {i : Int} (r : R P ok h v (.int i)) : ∃ t, v = .int i t := by cases r; exact ⟨_, rfl⟩
theorem R.inv_str {P : Program × World} {ok : Addr → Prop} {h : Heap} {v : Value} {x : PySem.Str} (r : R P ok h v (.str x)) : ∃ t, v = .str x t ∧ x.length ≤ sizeLine := by cases r; exact ⟨_, rfl, by assumption⟩
theorem R.inv_list {P : Program × World} {ok : Addr → Prop} {h : Heap} {v : Value} {ds : List V} (r : R P ok h v (.list ds)) : ∃ a vs, v = .ref a ∧ ok a ∧ ListAt h a vs ∧ RA P ok h vs ds := by
  cases r with
  | list h0 h1 h2 h3 hs h4 => exact ⟨_, _, rfl, h0, ⟨_, _, h1, h2, h3, hs⟩, h4⟩
theorem R.inv_tuple {P : Program × World} {ok : Addr → Prop} {h : Heap} {v : Value} {ds : List V} (r : R P ok h v (.tuple ds)) : ∃ a vs, v = .ref a ∧ ok a ∧ IsTup h a vs.toArray ∧ vs.length ≤ sizeLine ∧ RA P ok h vs ds := by
  cases r with
  | tuple h0 h1 h2 h3 hs h4 => exact ⟨_, _, rfl, h0, ⟨_, h1, h2, _, h3⟩, hs, h4⟩
theorem ListAt.isList {h : Heap} {a : Addr} {vs : List Value} (x : ListAt h a vs) : h.IsList a vs.toArray := let ⟨o, n, e, hc, hd, _⟩ := x; ⟨o, e, hc, n, hd⟩
theorem R.of_list {P : Program × World} {ok : Addr → Prop} {h : Heap} {a : Addr} {vs : List Value} {ds : List V} (h0 : ok a) (l : ListAt h a vs) (r : RA P ok h vs ds) : R P ok h (.ref a) (.list ds) := let ⟨_, _, e, hc, hd, hs⟩ := l; .list h0 e hc hd hs r
section
variable {α : Type} {P : Program × World} {ok : Addr → Prop} {h : Heap} {v : Value} {d : V} {post : α → Prop} {x : Msg → Prop}
theorem G.rInt {f : Int → Res α} (H : G (Mine.onInt d f) post x) (r : R P ok h v d) : ∃ i t, v = .int i t ∧ G (f i) post x := by
  obtain ⟨i, rfl, H⟩ := H.onInt
  obtain ⟨t, rfl⟩ := r.inv_int
  exact ⟨i, t, rfl, H⟩
theorem G.fz {u : V × Bool} {post : V → Prop} (H : G (fzV u) post x) (r : R P (fun a => u.2 = true → ok a) h v u.1) : R P ok h v u.1 ∧ post u.1 := by
  obtain ⟨q, H⟩ := G.need H
  refine ⟨?_, H⟩
  rcases Bool.or_eq_true_iff.mp q with q | q
  · exact r.weak fun _ x => x q
  · exact r.atom_any q
theorem G.rStr {f : PySem.Str → Res α} (H : G (Mine.onStr d f) post x) (r : R P ok h v d) : ∃ y t, v = .str y t ∧ y.length ≤ sizeLine ∧ G (f y) post x := by
  obtain ⟨i, rfl, H⟩ := H.onStr
  obtain ⟨t, rfl, hx⟩ := r.inv_str
  exact ⟨i, t, rfl, hx, H⟩
theorem G.rList {f : List V → Res α} (H : G (Mine.onList d f) post x) (r : R P ok h v d) : ∃ a vs ds, v = .ref a ∧ ok a ∧ ListAt h a vs ∧ RA P ok h vs ds ∧ G (f ds) post x := by
  obtain ⟨i, rfl, H⟩ := H.onList
  obtain ⟨a, vs, rfl, h0, la, ra⟩ := r.inv_list
  exact ⟨a, vs, i, rfl, h0, la, ra, H⟩
theorem G.rTup {f : List V → Res α} (H : G (Mine.onTup d f) post x) (r : R P ok h v d) : ∃ a vs ds, v = .ref a ∧ ok a ∧ IsTup h a vs.toArray ∧ vs.length ≤ sizeLine ∧ RA P ok h vs ds ∧ G (f ds) post x := by
  obtain ⟨i, rfl, H⟩ := H.onTup
  obtain ⟨a, vs, rfl, h0, la, hs, ra⟩ := r.inv_tuple
  exact ⟨a, vs, i, rfl, h0, la, hs, ra, H⟩
end

inductive RU (P : Program × World) (ok : Addr → Prop) (h : Heap) : List Value → List (V × Bool) → Prop
  | nil : RU P ok h [] []
  | cons {v vs u us} : R P (fun a => u.2 = true → ok a) h v u.1 → RU P ok h vs us → RU P ok h (v :: vs) (u :: us)
theorem RU.up {P : Program × World} {ok : Addr → Prop} {h h' : Heap} {vs us} (r : RU P ok h vs us) (k : UpAt (fun _ => True) h h') : RU P ok h' vs us := by
  induction r with
  | nil => exact .nil
  | cons a _ ih => exact .cons (a.mono (fun b o _ e q => k b o trivial e q) fun _ _ x _ => x) ih
theorem RU.length {P : Program × World} {ok : Addr → Prop} {h : Heap} {vs us} (r : RU P ok h vs us) : vs.length = us.length := by
  induction r with
  | nil => rfl
  | cons _ _ ih => rw [List.length_cons, List.length_cons, ih]

section
variable {prog : Program} {w : World} {b0 : Heap} {mg mb : PySem.Str → Option Value} {consts : String → Option V} {r : Rec} {n : Nat} {c : Cx} {E : List Addr} {φ : Frm} {Ω : List (String × Addr)} {s : Shared} {Q : Value → Shared → Prop} {Ex : Value → Shared → Prop}

theorem ev_none {k p} (H : EvPost (prog, w) c E Ω s Q (.none, true)) : wpAny (model prog w) c.A (eval (.Constant .none k p) c.env) Q Ex s := wpAny_Constant_none (H.here .none)
theorem ev_bool {b k p} (H : EvPost (prog, w) c E Ω s Q (.bool b, true)) : wpAny (model prog w) c.A (eval (.Constant (.bool b) k p) c.env) Q Ex s := wpAny_Constant_bool (H.here (.bool b))
theorem ev_int {i k p} (H : EvPost (prog, w) c E Ω s Q (.int i, true)) : wpAny (model prog w) c.A (eval (.Constant (.int i) k p) c.env) Q Ex s := wpAny_Constant_int (H.now (.int i _))
theorem ev_str {x k p} (hx : x.length ≤ sizeLine) (H : EvPost (prog, w) c E Ω s Q (.str x, true)) : wpAny (model prog w) c.A (eval (.Constant (.str x) k p) c.env) Q Ex s := wpAny_Constant_str (H.now (.str x _ hx))

/-- a local name is read -/
theorem ld_at {A : Around} {x : String} {p : Pos} {v : Value} {m cm : PySem.Str → Option Value} (ok : c.Ok n) (hn : LName c.env.scope x) (h1 : s.heap.Ns c.env.locals m) (h2 : ∀ n k, c.env.cells.lookup n = some k → s.heap.IsCell k (cm n))
    (hv : atName c m cm (nm x) = some v) (h : Q v s) : wpAny (model prog w) A (eval (.Name (nm x) p) c.env) Q Ex s := by
  refine wpAny_Name ?_ hn.2.1
  rcases hn.1 with hl | hl
  · have e : atName c m cm (nm x) = m (nm x) := by unfold atName Env.kindOf; rw [hl]
    exact wpAny_loadName_local ok.kind hl h1 (e ▸ hv) h
  · have e : atName c m cm (nm x) = cm (nm x) := by unfold atName Env.kindOf; rw [hl]
    obtain ⟨k, hk⟩ := ok.cells _ hl
    have := h2 _ _ hk
    rw [← e, hv] at this
    exact wpAny_loadName_cell ok.kind hl hk this h
theorem ev_var {x : String} {p : Pos} (ok : c.Ok n) (st : St (prog, w) b0 c E φ Ω s.heap) (hn : LName c.env.scope x) (H : G (evI consts r φ (.var x)) (EvPost (prog, w) c E Ω s Q) (XPost c s Ex)) :
    wpAny (model prog w) c.A (eval (.Name (nm x) p) c.env) Q Ex s := by
  obtain ⟨m, cm, h1, h2, h3⟩ := st.loc
  dsimp only [evI] at H
  cases hl : φ.lookup x with
  | none => rw [hl] at H; exact H.elim
  | some sl =>
    rw [hl] at H
    have q := h3 x sl hl hn
    cases sl with
    | val d f =>
      obtain ⟨v, e, rv⟩ := q
      exact ld_at ok hn h1 h2 e (H.here (rv.weak fun a ha hf => ⟨ha.1 hf, ha.2⟩))
    | acc ds =>
      obtain ⟨a, vs, _, e, la, ra⟩ := q
      exact ld_at ok hn h1 h2 e (H.here (.of_list (fun q => (nomatch q)) la.list (ra.weak fun _ _ q => (nomatch q))))
    | tab kvs =>
      obtain ⟨a, _, e, ps, ds, q1, q2, q3, q4, rfl⟩ := q
      exact ld_at ok hn h1 h2 e (H.here (.dict (fun q => (nomatch q)) q1 q2 (q3.weak fun _ _ q => (nomatch q)) q4))
    | gone => exact (show False from H).elim

/-- a name of the top, of the built-ins -/
theorem ld_glob {A : Around} {x : String} {p : Pos} {v : Value} (S : Stat (prog, w) b0 mg mb consts) (ok : c.Ok n) (st : St (prog, w) b0 c E φ Ω s.heap) (hn : GName c.env.scope x) (hv : mg (nm x) = some v) (h : Q v s) :
    wpAny (model prog w) A (eval (.Name (nm x) p) c.env) Q Ex s :=
  Name_function_global ok.kind hn.1 (loadGlobal_global (by rw [ok.globals]; exact S.g.keeps st.stay) hv h) hn.2
theorem ld_boot {A : Around} {x : String} {p : Pos} {v : Value} (S : Stat (prog, w) b0 mg mb consts) (ok : c.Ok n) (st : St (prog, w) b0 c E φ Ω s.heap) (hn : GName c.env.scope x) (hm : mg (nm x) = none) (hv : bootBuiltins (nm x) = some v) (hx : nm x ≠ "__name__") (h : Q v s) :
    wpAny (model prog w) A (eval (.Name (nm x) p) c.env) Q Ex s :=
  Name_function_global ok.kind hn.1 (loadGlobal_builtin (by rw [ok.globals]; exact S.g.keeps st.stay) hm (by rw [ok.builtins]; exact S.b.keeps st.stay) ((S.bi _ hx).trans hv) h) hn.2
theorem ev_glob {x : String} {p : Pos} (S : Stat (prog, w) b0 mg mb consts) (ok : c.Ok n) (st : St (prog, w) b0 c E φ Ω s.heap) (hn : GName c.env.scope x) (H : G (evI consts r φ (.glob x)) (EvPost (prog, w) c E Ω s Q) (XPost c s Ex)) :
    wpAny (model prog w) c.A (eval (.Name (nm x) p) c.env) Q Ex s := by
  obtain ⟨d, hl, H⟩ := G.onO H
  obtain ⟨v, hv, rv⟩ := S.con x d hl
  refine ld_glob S ok st hn hv (EvPost.here H (rv.mono (fun b o _ e _ => st.stay b o e) fun b o _ e _ => ⟨fun z => ?_, fun z => ?_⟩))
  · rw [st.off b (.inl z)] at e; cases e
  · rw [st.off b (.inr z)] at e; cases e

/-- arguments, items: from left to right -/
theorem ev_args (hE : SEv prog w b0 r n) (ok : c.Ok n) {es : List Expr} {is : List IE} {p : Pos} (he : CEs c.env.scope es is) : ∀ {s : Shared} {Q : List Value → Shared → Prop}, St (prog, w) b0 c E φ Ω s.heap →
    G (evs r φ is) (fun us => ∀ vs h' tk, Kp c.fs [] s.heap h' → RU (prog, w) (fun a => a ∉ E ∧ a ∉ c.Y Ω) h' vs us → Q vs { s with heap := h', toks := tk }) (XPost c s Ex) →
    wpAny (model prog w) c.A (spliced (backTo p (starEach es c.env))) Q Ex s := by
  induction he with
  | nil => exact fun _ H => args_nil (H [] _ _ .refl .nil)
  | cons he _ ih =>
    intro s Q st H
    refine args_cons ?_ (CE.star he _ _)
    refine hE c E φ Ω s _ _ _ _ ok st he ((G.bind (res := r.ev φ _) H).mono (fun u _ Hu v h₁ tk₁ k₁ r₁ => ?_) fun _ _ X => X)
    refine ih (s := { s with heap := h₁, toks := tk₁ }) (st.kp k₁) ((G.bind (res := evs r φ _) Hu).mono (fun us _ Hus vs h₂ tk₂ k₂ r₂ => ?_) fun _ _ X => X.step k₁)
    exact Hus _ _ _ (k₁.trans k₂) (.cons (r₁.mono (k₂.up fun _ _ => by simp) fun _ _ x _ => x) r₂)
end
end Mine
end

section
set_option Elab.async false
namespace Mine
open PySem PySem.W PySem.Calls PyProof.Rows

theorem lim_lt : lim ≤ sizeLine := by rw [sizeLine_eq]; decide
theorem len63 {n : Nat} (h : n ≤ sizeLine) : (n : Int) < 2 ^ 63 := by
  rw [sizeLine_eq] at h
  have : (n : Int) ≤ 16777216 := by omega
  exact Int.lt_of_le_of_lt this (by decide)
section
variable {prog : Program} {w : World} {b0 : Heap} {mg mb : PySem.Str → Option Value} {consts : String → Option V} {r : Rec} {n : Nat} {c : Cx} {E : List Addr} {φ : Frm} {Ω : List (String × Addr)} {s : Shared} {Q : Value → Shared → Prop} {Ex : Value → Shared → Prop} {A : Around}

theorem tr {QB : Bool → Shared → Prop} {PT : Bool → Prop} {X : Msg → Prop} {v : Value} {d : V} {P : Program × World} {ok : Addr → Prop} (rv : R P ok s.heap v d) (H : G (truthV d) PT X) (h : ∀ b tk, PT b → QB b { s with toks := tk }) : wpAny (model prog w) A (truthy v) QB Ex s := by
  cases rv with
  | none => exact truthy_none (h _ s.toks H)
  | bool b' => exact wpAny_truthy_bool (h _ s.toks H)
  | int i t => exact truthy_int (h _ s.toks H)
  | str x t hx =>
    refine PySem.P.truthy_str (by have := len63 hx; omega) ?_
    have e : ((x.length : Int) != 0) = (x.length != 0) := by
      cases q : x.length with
      | zero => rfl
      | succ n => simp only [bne]; congr 1
    rw [e]
    exact h _ _ H
  | tuple => exact (show False from H).elim
  | list h0 h1 h2 h3 hs h4 =>
    rename_i a o vs k ds
    have hL : s.heap.IsList a vs.toArray := ⟨_, h1, h2, k, h3⟩
    have hlen := h4.length
    refine wpAny_truthy_list hL (by rw [List.size_toArray]; exact len63 hs) ?_
    have e : (!vs.toArray.isEmpty) = (!ds.isEmpty) := by
      cases vs with
      | nil => cases ds with
        | nil => rfl
        | cons => cases hlen
      | cons => cases ds with
        | nil => cases hlen
        | cons => rfl
    rw [e]; exact h _ _ H
  | dict => exact (show False from H).elim

theorem ev_neg {x : Expr} {p : Pos} {a : IE} (hE : SEv prog w b0 r n) (ok : c.Ok n) (st : St (prog, w) b0 c E φ Ω s.heap) (ha : CE c.env.scope x a) (H : G (evI consts r φ (.neg a)) (EvPost (prog, w) c E Ω s Q) (XPost c s Ex)) :
    wpAny (model prog w) c.A (eval (.UnaryOp .USub x p) c.env) Q Ex s := by
  dsimp only [evI] at H
  refine wpAny_UnaryOp (hE c E φ Ω s _ _ _ _ ok st ha (H.bind.mono (fun u _ Hu v h₁ tk₁ k₁ r₁ => ?_) fun _ _ X => X))
  obtain ⟨i, t, rfl, Hu⟩ := Hu.rInt r₁
  exact neg_int (Hu _ _ _ k₁ (.int _ _))
theorem ev_orv {x y : Expr} {p : Pos} {a b : IE} (hE : SEv prog w b0 r n) (ok : c.Ok n) (st : St (prog, w) b0 c E φ Ω s.heap) (ha : CE c.env.scope x a) (hb : CE c.env.scope y b)
    (H : G (evI consts r φ (.orv a b)) (EvPost (prog, w) c E Ω s Q) (XPost c s Ex)) :
    wpAny (model prog w) c.A (eval (.BoolOp .Or [x, y] p) c.env) Q Ex s := by
  dsimp only [evI] at H
  refine wpAny_Or2 (hE c E φ Ω s _ _ _ _ ok st ha (H.bind.mono (fun u hu Hu v h₁ tk₁ k₁ r₁ => ?_) fun _ _ X => X))
  refine tr r₁ Hu.bind fun t tk Hu => ?_
  cases t with
  | true => exact (show EvPost (prog, w) c E Ω s Q u from Hu) v h₁ tk k₁ r₁
  | false => exact hE c E φ Ω { s with heap := h₁, toks := tk } _ _ _ _ ok (st.kp k₁) hb (G.mono (res := r.ev φ b) Hu (fun u _ Hu => Hu.step k₁) fun _ _ X => X.step k₁)
theorem ev_ife {t x y : Expr} {p : Pos} {ti : TE} {a b : IE} (hE : SEv prog w b0 r n) (hT : STs prog w b0 r n) (ok : c.Ok n) (st : St (prog, w) b0 c E φ Ω s.heap) (ht : CT c.env.scope t ti) (ha : CE c.env.scope x a) (hb : CE c.env.scope y b)
    (H : G (evI consts r φ (.ife ti a b)) (EvPost (prog, w) c E Ω s Q) (XPost c s Ex)) : wpAny (model prog w) c.A (eval (.IfExp t x y p) c.env) Q Ex s := by
  dsimp only [evI] at H
  refine wpAny_IfExp (hT c E φ Ω s _ _ _ _ ok st ht (H.bind.mono (fun b' _ Hb h₁ tk₁ k₁ => ?_) fun _ _ X => X))
  cases b' with
  | true =>
    have Hb' : G (r.ev φ a) (EvPost (prog, w) c E Ω s Q) (XPost c s Ex) := Hb
    exact hE c E φ Ω { s with heap := h₁, toks := tk₁ } _ _ _ _ ok (st.kp k₁) ha (Hb'.mono (fun u _ Hu => Hu.step k₁) fun _ _ X => X.step k₁)
  | false =>
    have Hb' : G (r.ev φ b) (EvPost (prog, w) c E Ω s Q) (XPost c s Ex) := Hb
    exact hE c E φ Ω { s with heap := h₁, toks := tk₁ } _ _ _ _ ok (st.kp k₁) hb (Hb'.mono (fun u _ Hu => Hu.step k₁) fun _ _ X => X.step k₁)

/-- a new list, a new tuple -/
theorem push_kp {fs Y : List Addr} {h : Heap} (o : Obj) : Kp fs Y h (h.push o) := .of_keeps fun _ _ e => Heap.get?_push_of_some _ e
theorem new_list {P : Program × World} {ok : Addr → Prop} {h : Heap} {vs : List Value} {ds : List V} (h0 : ok h.objs.size) (hs : vs.length ≤ sizeLine) (ra : RA P ok h vs ds) : R P ok (h.push { cls := .type "list", data := .seq vs.toArray }) (.ref h.objs.size) (.list ds) :=
  .list h0 (Heap.get?_push_size _ rfl) rfl rfl hs (ra.mono (fun b o _ e _ => Heap.get?_push_of_some _ e) fun _ _ x _ => x)
theorem new_tuple {P : Program × World} {ok : Addr → Prop} {h : Heap} {vs : List Value} {ds : List V} (h0 : ok h.objs.size) (hs : vs.length ≤ sizeLine) (ra : RA P ok h vs ds) : R P ok (h.push { cls := .type "tuple", data := .seq vs.toArray }) (.ref h.objs.size) (.tuple ds) :=
  .tuple h0 (Heap.get?_push_size _ rfl) rfl rfl hs (ra.mono (fun b o _ e _ => Heap.get?_push_of_some _ e) fun _ _ x _ => x)

/-- nothing of the state lies where the next object will -/
theorem St.next {P : Program × World} {h : Heap} {f : Bool} (st : St P b0 c E φ Ω h) : f = true → h.objs.size ∉ E ∧ h.objs.size ∉ c.Y Ω := fun _ =>
  ⟨fun z => let ⟨_, e⟩ := st.alive _ (.inl z); absurd (Heap.lt_size e) (Nat.lt_irrefl _), fun z => let ⟨_, e⟩ := st.alive _ (.inr z); absurd (Heap.lt_size e) (Nat.lt_irrefl _)⟩
end
end Mine
end

section
set_option Elab.async false
namespace Mine
open PySem PySem.W PySem.Calls PyProof.Rows

section
variable {prog : Program} {w : World} {b0 : Heap} {mg mb : PySem.Str → Option Value} {consts : String → Option V} {r : Rec} {n : Nat} {c : Cx} {E : List Addr} {φ : Frm} {Ω : List (String × Addr)} {s : Shared} {Q : Value → Shared → Prop} {Ex : Value → Shared → Prop} {A : Around}

/-- two lists in one -/
theorem add_l {l b : Addr} {vs ws : List Value} (hl : s.heap.IsList l vs.toArray) (hb : s.heap.IsList b ws.toArray) (hsz : vs.length + ws.length ≤ sizeLine)
    (h : Q (.ref s.heap.objs.size) { s with heap := s.heap.push { cls := .type "list", data := .seq (vs ++ ws).toArray } }) : wpAny (model prog w) A (binaryOp .Add (.ref l) (.ref b)) Q Ex s := by
  obtain ⟨⟨cls, dd, data, sl⟩, ho, hc, n, hd⟩ := id hl
  obtain ⟨⟨cls2, dd2, data2, sl2⟩, ho2, hc2, n2, hd2⟩ := id hb
  simp only at hc hd hc2 hd2
  subst hc hd hc2 hd2
  have e : vs.toArray ++ ws.toArray = (vs ++ ws).toArray := by simp
  refine concat_meets ⟨_, ho, rfl⟩ ⟨_, ho2, rfl⟩ noFill_list_add seq_list_add PySem.F.slot_list_add PySem.F.entry_list_add (PySem.F.args_list_add_2 _ _) (list_addW l b vs.toArray ws.toArray n n2 dd dd2 sl sl2 (by simpa using hsz)) ⟨ho, ho2, ?_⟩
  rw [e]; exact h

theorem add_tup {l b : Addr} {vs ws : List Value} (hl : IsTup s.heap l vs.toArray) (hb : IsTup s.heap b ws.toArray) (hsz : vs.length + ws.length ≤ sizeLine) (n1 : vs.length ≠ 0) (n2 : ws.length ≠ 0)
    (h : Q (.ref s.heap.objs.size) { s with heap := s.heap.push { cls := .type "tuple", data := .seq (vs ++ ws).toArray } }) : wpAny (model prog w) A (binaryOp .Add (.ref l) (.ref b)) Q Ex s := by
  obtain ⟨⟨cls, dd, data, sl⟩, ho, hc, n, hd⟩ := id hl
  obtain ⟨⟨cls2, dd2, data2, sl2⟩, ho2, hc2, n3, hd2⟩ := id hb
  simp only at hc hd hc2 hd2
  subst hc hd hc2 hd2
  have e : vs.toArray ++ ws.toArray = (vs ++ ws).toArray := by simp
  refine concat_meets ⟨_, ho, rfl⟩ ⟨_, ho2, rfl⟩ noFill_tuple_add seq_tuple_add PySem.F.slot_tuple_add PySem.F.entry_tuple_add (PySem.F.args_tuple_add_2 _ _) (tuple_addW2 l b vs.toArray ws.toArray n n3 dd dd2 sl sl2 (by simpa using n1) (by simpa using n2) (by simpa using hsz)) ⟨ho, ho2, ?_⟩
  rw [e]; exact h

theorem mulOk {x : PySem.Str} {k : Int} (h0 : 0 ≤ k) (hk : k ≤ 1000000) (h : x.length * k.toNat ≤ lim) : MulOk x k := by
  have hl := lim_lt
  refine ⟨?_, fun h1 h2 => ?_, fun _ _ => ?_⟩
  · rw [Bool.or_eq_false_iff]; exact ⟨decide_eq_false (by omega), decide_eq_false (by omega)⟩
  · have hn : 0 < k := by omega
    intro hc
    have h3 : (x.length : Int) * k ≤ 1000000 := by
      have : ((x.length * k.toNat : Nat) : Int) ≤ ((lim : Nat) : Int) := by exact_mod_cast h
      rw [Int.natCast_mul, Int.toNat_of_nonneg h0] at this
      exact this
    have h4 : (2 ^ 63 - 1) / k * k ≤ 2 ^ 63 - 1 := Int.ediv_mul_le _ (by omega)
    have h5 : (2 ^ 63 - 1 : Int) < ((2 ^ 63 - 1) / k + 1) * k := Int.lt_ediv_add_one_mul_self _ hn
    have h6 : ((2 ^ 63 - 1) / k + 1) * k ≤ (x.length : Int) * k := Int.mul_le_mul_of_nonneg_right (by omega) h0
    omega
  · exact decide_eq_false (by rw [sizeLine_eq]; have : lim = 1000000 := rfl; omega)
theorem mul_fits {x : PySem.Str} {k : Int} (h0 : 0 ≤ k) (h : x.length * k.toNat ≤ lim) : (Txt.mul x k).length ≤ sizeLine := by
  unfold Txt.mul
  split
  · rw [sizeLine_eq]; decide
  · split
    · rename_i h1 h2
      have : 1 ≤ k.toNat := by omega
      have h3 : x.length * 1 ≤ x.length * k.toNat := Nat.mul_le_mul_left _ this
      have := lim_lt
      omega
    · have e : ∀ (m : Nat) (acc : Array Nat), ((List.replicate m x.cps).foldl (· ++ ·) acc).size = acc.size + m * x.cps.size := by
        intro m
        induction m with
        | zero => intro acc; simp
        | succ m ih => intro acc; rw [List.replicate_succ, List.foldl_cons, ih, Array.size_append, Nat.succ_mul]; omega
      show ((List.replicate k.toNat x.cps).foldl (· ++ ·) #[]).size ≤ sizeLine
      rw [e]
      have h3 : x.cps.size * k.toNat ≤ lim := h
      rw [Nat.mul_comm] at h3
      have := lim_lt
      simp
      omega

theorem bin_sound {o : Operator} {op : BOp} {u v : V × Bool} {va vb : Value} {P : Program × World} {okk : Addr → Prop} {X : Msg → Prop} (ho : COpB o op) (r₁ : R P (fun a => u.2 = true → okk a) s.heap va u.1) (r₂ : R P (fun a => v.2 = true → okk a) s.heap vb v.1)
    (hn : okk s.heap.objs.size) (H : G (binV op u v) (fun d => ∀ v h' tk, (∀ b o, s.heap.get? b = some o → h'.get? b = some o) → R P okk h' v d → Q v { s with heap := h', toks := tk }) X) : wpAny (model prog w) A (binaryOp o va vb) Q Ex s := by
  have hl := lim_lt
  have keep : ∀ (x : Obj) b o, s.heap.get? b = some o → (s.heap.push x).get? b = some o := fun x _ _ e => Heap.get?_push_of_some _ e
  cases ho
  · obtain ⟨d, f⟩ := u
    have r₁ : R P (fun a => f = true → okk a) s.heap va d := r₁
    cases r₁ with
    | none => exact (show False from H).elim
    | bool => exact (show False from H).elim
    | dict => exact (show False from H).elim
    | int i t =>
      obtain ⟨j, t', rfl, H⟩ := G.rInt H r₂
      exact PySem.P.add_int (H _ _ _ (fun _ _ e => e) (.int _ _))
    | str x t hx =>
      obtain ⟨y, t', rfl, hy, H⟩ := G.rStr H r₂
      obtain ⟨q, H⟩ := G.need H
      exact SB.add (fun t' k' => H _ _ _ (fun _ _ e => e) (.str _ _ (by rw [PySem.Str.length_append]; omega))) (by omega)
    | list h0 h1 h2 h3 hs ra =>
      obtain ⟨tb, ws, es, rfl, h0', lb, rb, H⟩ := G.rList H r₂
      obtain ⟨q, H⟩ := G.need H
      refine add_l ⟨_, h1, h2, _, h3⟩ lb.isList (by rw [ra.length, rb.length]; omega) ?_
      exact H _ _ _ (keep _) (new_list hn (by rw [List.length_append, ra.length, rb.length]; omega) ((ra.weak fun _ x => x q.1.1).append (rb.weak fun _ x => x q.1.2)))
    | tuple h0 h1 h2 h3 hs ra =>
      obtain ⟨tb, ws, es, rfl, h0', lb, _, rb, H⟩ := G.rTup H r₂
      obtain ⟨q, H⟩ := G.need H
      refine add_tup ⟨_, h1, h2, _, h3⟩ lb (by rw [ra.length, rb.length]; omega) (by rw [ra.length]; exact q.2.2.1) (by rw [rb.length]; exact q.2.2.2) ?_
      exact H _ _ _ (keep _) (new_tuple hn (by rw [List.length_append, ra.length, rb.length]; omega) ((ra.weak fun _ x => x q.1.1).append (rb.weak fun _ x => x q.1.2)))
  · obtain ⟨i, t, rfl, H⟩ := G.rInt H r₁
    obtain ⟨j, t', rfl, H⟩ := G.rInt H r₂
    obtain ⟨q, H⟩ := G.need H
    exact mod_int' q (H _ _ _ (fun _ _ e => e) (.int _ _))
  · obtain ⟨y, t, rfl, hx, H⟩ := G.rStr H r₁
    obtain ⟨j, t', rfl, H⟩ := G.rInt H r₂
    obtain ⟨q, H⟩ := G.need H
    exact SB.mul (mulOk q.1 q.2.2 q.2.1) fun t' k' => H _ _ _ (fun _ _ e => e) (.str _ _ (mul_fits q.1 q.2.1))
theorem ev_bin {l rr : Expr} {o : Operator} {p : Pos} {op : BOp} {a b : IE} (hE : SEv prog w b0 r n) (ok : c.Ok n) (st : St (prog, w) b0 c E φ Ω s.heap) (ho : COpB o op) (ha : CE c.env.scope l a) (hb : CE c.env.scope rr b)
    (H : G (evI consts r φ (.bin op a b)) (EvPost (prog, w) c E Ω s Q) (XPost c s Ex)) : wpAny (model prog w) c.A (eval (.BinOp l o rr p) c.env) Q Ex s := by
  dsimp only [evI] at H
  refine wpAny_BinOp (hE c E φ Ω s _ _ _ _ ok st ha (H.bind.mono (fun u _ Hu va h₁ tk₁ k₁ r₁ => ?_) fun _ _ X => X))
  refine hE c E φ Ω { s with heap := h₁, toks := tk₁ } _ _ _ _ ok (st.kp k₁) hb (Hu.bind.mono (fun v _ Hv vb h₂ tk₂ k₂ r₂ => ?_) fun _ _ X => X.step k₁)
  have k := k₁.trans k₂
  exact bin_sound (s := { s with heap := h₂, toks := tk₂ }) ho (r₁.mono (k₂.up fun _ _ => by simp) fun _ _ x _ => x) r₂ ((st.kp k).next (f := true) rfl)
    (Hv.bind.mono (fun d _ Hd v h' tk kp rv => (show EvPost (prog, w) c E Ω s Q (d, true) from Hd) v h' tk (k.trans (.of_keeps kp)) (rv.weak fun _ x _ => x)) fun _ _ X => X)
end
end Mine
end

section
set_option Elab.async false
namespace Mine
open PySem PySem.W PySem.Calls PyProof.Rows

section
variable {prog : Program} {w : World} {b0 : Heap} {mg mb : PySem.Str → Option Value} {consts : String → Option V} {r : Rec} {n : Nat} {c : Cx} {E : List Addr} {φ : Frm} {Ω : List (String × Addr)} {s : Shared} {Q : Value → Shared → Prop} {Ex : Value → Shared → Prop} {A : Around}

/-- a built-in function, a type, of one argument -/
theorem call1_b {x : Expr} {a : IE} {nme id : String} {np p : Pos} (S : Stat (prog, w) b0 mg mb consts) (hE : SEv prog w b0 r n) (ok : c.Ok n) (st : St (prog, w) b0 c E φ Ω s.heap) (hn : GName c.env.scope nme) (hm : nme ∈ ["len", "str", "int", "list", "dict", "isinstance", "type", "bool", "reversed", "enumerate", "range", "ValueError"])
    (hv : bootBuiltins (nm nme) = some (.builtin id)) (hx : nm nme ≠ "__name__") (ha : CE c.env.scope x a)
    (H : G (r.ev φ a) (fun u => ∀ v h' tk, Kp c.fs [] s.heap h' → R (prog, w) (fun a => u.2 = true → a ∉ E ∧ a ∉ c.Y Ω) h' v u.1 → wpAny (model prog w) c.A (call (.builtin id) [v]) Q Ex { s with heap := h', toks := tk }) (XPost c s Ex)) :
    wpAny (model prog w) c.A (eval (.Call (.Name (nm nme) np) [x] [] p) c.env) Q Ex s := by
  refine Call_ (ld_boot S ok st hn (S.free _ hm) hv hx (callWith_builtin1 ?_ (ha.star _ _) rfl))
  refine args_cons ?_ (ha.star _ _)
  exact hE c E φ Ω s _ _ _ _ ok st ha (H.mono (fun u _ Hu v h₁ tk₁ k₁ r₁ => args_nil (Hu v h₁ tk₁ k₁ r₁)) fun _ _ X => X)
theorem call1_t {x : Expr} {a : IE} {nme id : String} {np p : Pos} (S : Stat (prog, w) b0 mg mb consts) (hE : SEv prog w b0 r n) (ok : c.Ok n) (st : St (prog, w) b0 c E φ Ω s.heap) (hn : GName c.env.scope nme) (hm : nme ∈ ["len", "str", "int", "list", "dict", "isinstance", "type", "bool", "reversed", "enumerate", "range", "ValueError"])
    (hv : bootBuiltins (nm nme) = some (.type id)) (hx : nm nme ≠ "__name__") (ha : CE c.env.scope x a)
    (H : G (r.ev φ a) (fun u => ∀ v h' tk, Kp c.fs [] s.heap h' → R (prog, w) (fun a => u.2 = true → a ∉ E ∧ a ∉ c.Y Ω) h' v u.1 → wpAny (model prog w) c.A (call (.type id) [v]) Q Ex { s with heap := h', toks := tk }) (XPost c s Ex)) :
    wpAny (model prog w) c.A (eval (.Call (.Name (nm nme) np) [x] [] p) c.env) Q Ex s := by
  refine Call_ (ld_boot S ok st hn (S.free _ hm) hv hx (callWith_type1 ?_ (ha.star _ _) rfl))
  refine args_cons ?_ (ha.star _ _)
  exact hE c E φ Ω s _ _ _ _ ok st ha (H.mono (fun u _ Hu v h₁ tk₁ k₁ r₁ => args_nil (Hu v h₁ tk₁ k₁ r₁)) fun _ _ X => X)
theorem boot_len : bootBuiltins (nm "len") = some (.builtin "len") := by decide +kernel
theorem boot_str : bootBuiltins (nm "str") = some (.type "str") := by decide +kernel
theorem boot_int : bootBuiltins (nm "int") = some (.type "int") := by decide +kernel
theorem boot_bool : bootBuiltins (nm "bool") = some (.type "bool") := by decide +kernel
theorem boot_list : bootBuiltins (nm "list") = some (.type "list") := by decide +kernel
theorem boot_isi : bootBuiltins (nm "isinstance") = some (.builtin "isinstance") := by decide +kernel
theorem boot_type : bootBuiltins (nm "type") = some (.type "type") := by decide +kernel
theorem boot_rev : bootBuiltins (nm "reversed") = some (.type "reversed") := by decide +kernel
theorem boot_enum : bootBuiltins (nm "enumerate") = some (.type "enumerate") := by decide +kernel
theorem boot_ve : bootBuiltins (nm "ValueError") = some (.type "ValueError") := by decide +kernel

theorem log2_ok {i : Int} (q : i.natAbs < 2 ^ 100) : i.natAbs.log2 < 1920 := by
  by_cases h0 : i.natAbs = 0
  · rw [h0]; decide
  · exact Nat.lt_of_lt_of_le ((Nat.log2_lt h0).mpr q) (by decide)
theorem ev_strOf {x : Expr} {a : IE} {np p : Pos} (S : Stat (prog, w) b0 mg mb consts) (hE : SEv prog w b0 r n) (ok : c.Ok n) (st : St (prog, w) b0 c E φ Ω s.heap) (hn : GName c.env.scope "str") (ha : CE c.env.scope x a)
    (H : G (evI consts r φ (.strOf a)) (EvPost (prog, w) c E Ω s Q) (XPost c s Ex)) : wpAny (model prog w) c.A (eval (.Call (.Name (nm "str") np) [x] [] p) c.env) Q Ex s := by
  dsimp only [evI] at H
  refine call1_t S hE ok st hn (by decide) boot_str (by decide) ha (H.bind.mono (fun u _ Hu v h₁ tk₁ k₁ r₁ => ?_) fun _ _ X => X)
  obtain ⟨d, f⟩ := u
  cases d <;> first | exact (show False from Hu).elim | skip
  · rename_i i _
    rcases G.ite (show G (if i.natAbs < 2 ^ 100 then Res.ok (V.str (PySem.Str.ofString (toString i)), true) else Res.bad) _ _ from Hu) with ⟨q, Hq⟩ | ⟨_, Hq⟩
    · obtain ⟨t, rfl⟩ := r₁.inv_int
      exact PySem.P.str_of_int (log2_ok q) ((show EvPost (prog, w) c E Ω s Q _ from Hq) _ _ _ k₁ (.str _ _ (int_text_fits (log2_ok q))))
    · exact Hq.elim
  · obtain ⟨t, rfl, hx⟩ := r₁.inv_str
    exact PySem.P.str_of_str ((show EvPost (prog, w) c E Ω s Q _ from Hu) _ _ _ k₁ (.str _ _ hx))
theorem ev_intOf {x : Expr} {a : IE} {np p : Pos} (S : Stat (prog, w) b0 mg mb consts) (hE : SEv prog w b0 r n) (ok : c.Ok n) (st : St (prog, w) b0 c E φ Ω s.heap) (hn : GName c.env.scope "int") (ha : CE c.env.scope x a)
    (H : G (evI consts r φ (.intOf a)) (EvPost (prog, w) c E Ω s Q) (XPost c s Ex)) : wpAny (model prog w) c.A (eval (.Call (.Name (nm "int") np) [x] [] p) c.env) Q Ex s := by
  dsimp only [evI] at H
  refine call1_t S hE ok st hn (by decide) boot_int (by decide) ha (H.bind.mono (fun u _ Hu v h₁ tk₁ k₁ r₁ => ?_) fun _ _ X => X)
  obtain ⟨y, t, rfl, hx, Hu⟩ := Hu.rStr r₁
  obtain ⟨q, Hu⟩ := G.need Hu
  obtain ⟨k, hi, Hu⟩ := G.onO Hu
  exact KIN.call_text hi q (Hu _ _ _ k₁ (.int _ _))
theorem G.typeV {d : V} {P : Program × World} {okk : Addr → Prop} {h : Heap} {v : Value} {post : String → Prop} {X : Msg → Prop} (H : G (typeV d) post X) (r : R P okk h v d) : (v = .none ∧ post "NoneType") ∨ (∃ b, v = .bool b ∧ post "bool") ∨ (∃ i t, v = .int i t ∧ post "int") ∨ (∃ x t, v = .str x t ∧ post "str") := by
  cases r with
  | none => exact .inl ⟨rfl, H⟩
  | bool b => exact .inr (.inl ⟨b, rfl, H⟩)
  | int i t => exact .inr (.inr (.inl ⟨i, t, rfl, H⟩))
  | str x t _ => exact .inr (.inr (.inr ⟨x, t, rfl, H⟩))
  | tuple => exact (show False from H).elim
  | list => exact (show False from H).elim
  | dict => exact (show False from H).elim
theorem inst_T {d : V} {T : String} {post : Bool → Prop} {X : Msg → Prop} (H : G (instV d T) post X) : T = "str" ∨ T = "int" ∨ T = "bool" := by
  have H := G.bind H
  cases d <;> first | exact (show False from H).elim | exact (G.need H).1
theorem inst_sound {d : V} {v : Value} {T : String} {P : Program × World} {okk : Addr → Prop} {X : Msg → Prop} (r₁ : R P okk s.heap v d) (H : G (instV d T) (fun b => ∀ tk, Q (.bool b) { s with toks := tk }) X) : wpAny (model prog w) A (call (.builtin "isinstance") [v, .type T]) Q Ex s := by
  have hT := inst_T H
  have H := G.bind H
  rcases H.typeV r₁ with ⟨rfl, H⟩ | ⟨b, rfl, H⟩ | ⟨i, t, rfl, H⟩ | ⟨x, t, rfl, H⟩ <;> (replace H := (G.need H).2; rcases hT with rfl | rfl | rfl)
  · exact IsiPair.NoneType_str (H _)
  · exact IsiPair.NoneType_int (H _)
  · exact IsiPair.NoneType_bool (H _)
  · exact IsiPair.bool_str (H _)
  · exact IsiPair.bool_int (H _)
  · exact IsiPair.bool_bool (H _)
  · exact IsiPair.int_str (H _)
  · exact IsiPair.int_int (H _)
  · exact IsiPair.int_bool (H _)
  · exact IsiPair.str_str (H _)
  · exact IsiPair.str_int (H _)
  · exact IsiPair.str_bool (H _)
theorem ev_isinst {x : Expr} {a : IE} {T : String} {np tp p : Pos} (S : Stat (prog, w) b0 mg mb consts) (hE : SEv prog w b0 r n) (ok : c.Ok n) (st : St (prog, w) b0 c E φ Ω s.heap) (hn : GName c.env.scope "isinstance") (hT : GName c.env.scope T) (ha : CE c.env.scope x a)
    (H : G (evI consts r φ (.isinst a T)) (EvPost (prog, w) c E Ω s Q) (XPost c s Ex)) : wpAny (model prog w) c.A (eval (.Call (.Name (nm "isinstance") np) [x, .Name (nm T) tp] [] p) c.env) Q Ex s := by
  dsimp only [evI] at H
  refine Call_ (ld_boot S ok st hn (S.free _ (by decide)) boot_isi (by decide) (callWith_builtin1 ?_ (ha.star _ _) rfl))
  refine args_cons ?_ (ha.star _ _)
  refine hE c E φ Ω s _ _ _ _ ok st ha (H.bind.mono (fun u _ Hu v h₁ tk₁ k₁ r₁ => ?_) fun _ _ X => X)
  have go : mg (nm T) = none → bootBuiltins (nm T) = some (.type T) → nm T ≠ "__name__" → wpAny (model prog w) c.A (spliced (backTo p (starEach [.Name (nm T) tp] c.env))) (fun vs s₂ => wpAny (model prog w) c.A (call (.builtin "isinstance") (v :: vs)) Q Ex s₂) Ex { s with heap := h₁, toks := tk₁ } := by
    intro g1 g2 g3
    refine args_cons (ld_boot S ok (st.kp k₁) hT g1 g2 g3 (args_nil ?_)) rfl
    exact inst_sound (s := { s with heap := h₁, toks := tk₁ }) r₁ (Hu.bind.mono (fun b _ Hb tk => (show EvPost (prog, w) c E Ω s Q (.bool b, true) from Hb) _ _ _ k₁ (.bool b)) fun _ _ X => X)
  rcases inst_T Hu.bind with rfl | rfl | rfl
  · exact go (S.free _ (by decide)) boot_str (by decide)
  · exact go (S.free _ (by decide)) boot_int (by decide)
  · exact go (S.free _ (by decide)) boot_bool (by decide)
end
end Mine
end

section
set_option Elab.async false
namespace Mine
open PySem PySem.W PySem.Calls PyProof.Rows

section
variable {prog : Program} {w : World} {b0 : Heap} {mg mb : PySem.Str → Option Value} {consts : String → Option V} {r : Rec} {n : Nat} {c : Cx} {E : List Addr} {φ : Frm} {Ω : List (String × Addr)} {s : Shared} {Q : Value → Shared → Prop} {Ex : Value → Shared → Prop} {A : Around}

theorem seq_idx {k : Int} {m : Nat} (h0 : 0 ≤ k) (h : k.toNat < m) : seqIndex? k m = some k.toNat := by
  unfold seqIndex?
  split <;> first | omega | skip
  all_goals simp_all
  all_goals omega
/-- an item by its place -/
theorem at_sound {e : V} {i : Value} {ds : List V} {vs : List Value} {P : Program × World} {okk okk' : Addr → Prop} {PV : V → Prop} {X : Msg → Prop} {W : Prop} (H : G (atV ds e) PV X) (r₂ : R P okk' s.heap i e) (ra : RA P okk s.heap vs ds)
    (h : ∀ k t v' d, i = .int k t → 0 ≤ k → k.toNat < vs.length → vs[k.toNat]? = some v' → R P okk s.heap v' d → PV d → W) : W := by
  obtain ⟨k, t, rfl, H⟩ := G.rInt H r₂
  obtain ⟨q, H⟩ := G.need H
  obtain ⟨d, hd, H⟩ := G.onO H
  obtain ⟨v', hv, rv⟩ := ra.get hd
  exact h k t v' d rfl q (List.getElem?_eq_some_iff.mp hv).1 hv rv H
theorem fz_all {us : List (V × Bool)} {vs : List Value} {P : Program × World} {okk : Addr → Prop} {h : Heap} {PL : List V → Prop} {X : Msg → Prop} (ru : RU P okk h vs us) (H : G (fzs us) PL X) : ∃ ds, RA P okk h vs ds ∧ PL ds := by
  induction ru generalizing PL with
  | nil => exact ⟨[], .nil, H⟩
  | cons ra _ ih =>
    rename_i u us _
    have H := G.bind (show G ((fzV u).bind fun d => (fzs us).bind fun ds => .ok (d :: ds)) PL X from H)
    obtain ⟨ra, H⟩ := H.fz ra
    obtain ⟨ds, rds, H⟩ := ih (G.bind H)
    exact ⟨_ :: ds, .cons ra rds, H⟩
theorem ev_list {es : List Expr} {is : List IE} {p : Pos} (hE : SEv prog w b0 r n) (ok : c.Ok n) (st : St (prog, w) b0 c E φ Ω s.heap) (he : CEs c.env.scope es is) (H : G (evI consts r φ (.list is)) (EvPost (prog, w) c E Ω s Q) (XPost c s Ex)) :
    wpAny (model prog w) c.A (eval (.List es p) c.env) Q Ex s := by
  dsimp only [evI] at H
  refine List_ (ev_args hE ok he st (H.bind.mono (fun us _ Hu vs h' tk k ru => ?_) fun _ _ X => X))
  obtain ⟨ds, ra, Hu⟩ := fz_all ru Hu.bind
  obtain ⟨q, Hq⟩ := G.need Hu
  have hsz : vs.length ≤ sizeLine := by have := lim_lt; rw [ra.length]; omega
  exact wpAny_newList ((show EvPost (prog, w) c E Ω s Q _ from Hq) _ _ _ (k.trans (push_kp _)) ((new_list ((st.kp k).next (f := true) rfl) hsz ra).weak fun _ x _ => x)) hsz
theorem ru_all {P : Program × World} {okk : Addr → Prop} {h : Heap} {vs us} (ru : RU P okk h vs us) : RA P (fun a => (us.all fun u => u.2 || u.1.atom) = true → okk a) h vs (us.map (·.1)) := by
  induction ru with
  | nil => exact .nil
  | cons ra _ ih =>
    rename_i v vs u us _
    refine .cons ?_ (ih.weak fun a x q => x (by rw [List.all_cons, Bool.and_eq_true] at q; exact q.2))
    cases hf : (u.2 || u.1.atom) with
    | true =>
      rcases Bool.or_eq_true_iff.mp hf with q | q
      · exact ra.weak fun _ x _ => x q
      · exact ra.atom_any q
    | false => exact ra.weak fun _ _ q => by rw [List.all_cons, hf] at q; cases q
theorem ev_tuple {es : List Expr} {is : List IE} {k : Nat} {p : Pos} (hE : SEv prog w b0 r n) (ok : c.Ok n) (st : St (prog, w) b0 c E φ Ω s.heap) (he : CEs c.env.scope es is) (H : G (evI consts r φ (.tuple is)) (EvPost (prog, w) c E Ω s Q) (XPost c s Ex)) :
    wpAny (model prog w) c.A (eval (.Tuple es k p) c.env) Q Ex s := by
  dsimp only [evI] at H
  refine Tuple_ (ev_args hE ok he st (H.bind.mono (fun us _ Hu vs h' tk k ru => ?_) fun _ _ X => X))
  rcases G.ite (show G (if us.length ≤ lim then Res.ok (V.tuple (us.map (·.1)), us.all fun u => u.2 || u.1.atom) else Res.bad) _ _ from Hu) with ⟨q, Hq⟩ | ⟨_, Hq⟩
  · have hsz : vs.length ≤ sizeLine := by have := lim_lt; rw [ru.length]; omega
    exact wpAny_newTuple ((show EvPost (prog, w) c E Ω s Q _ from Hq) _ _ _ (k.trans (push_kp _)) (new_tuple ((st.kp k).next) hsz (ru_all ru))) hsz
  · exact Hq.elim

theorem ev_upto {v u : Expr} {a i : IE} {sp p : Pos} (hE : SEv prog w b0 r n) (ok : c.Ok n) (st : St (prog, w) b0 c E φ Ω s.heap) (ha : CE c.env.scope v a) (hi : CE c.env.scope u i) (H : G (evI consts r φ (.upto a i)) (EvPost (prog, w) c E Ω s Q) (XPost c s Ex)) :
    wpAny (model prog w) c.A (eval (.Subscript v (.Slice none (some u) none sp) p) c.env) Q Ex s := by
  dsimp only [evI] at H
  refine Subscript_ (hE c E φ Ω s _ _ _ _ ok st ha (H.bind.mono (fun d _ Hd va h₁ tk₁ k₁ r₁ => ?_) fun _ _ X => X))
  refine wpAny_Slice (wpAny_evalPart_none (wpAny_evalPart_some ?_))
  refine hE c E φ Ω { s with heap := h₁, toks := tk₁ } _ _ _ _ ok (st.kp k₁) hi (Hd.bind.mono (fun e _ He vi h₂ tk₂ k₂ r₂ => wpAny_evalPart_none ?_) fun _ _ X => X.step k₁)
  have k := k₁.trans k₂
  have r₁' := r₁.mono (k₂.up fun _ _ => by simp) fun _ _ x _ => x
  obtain ⟨x, t', rfl, hx, He⟩ := G.rStr He r₁'
  obtain ⟨m, t, rfl, He⟩ := G.rInt He r₂
  obtain ⟨q, Hq⟩ := G.need He
  obtain ⟨T, id, hl, hT, hg⟩ := SBH.sliceItem_ns (prog := prog) (w := w) (A := c.A) (E := Ex) (s := { s with heap := h₂, toks := tk₂ }) (x := x) (t := t') (j := m) (uj := t) (P := fun h' => Kp c.fs [] s.heap h') (fun h ob kh => kh.trans (push_kp _)) k
    (fun h' t' k' kh => (show EvPost (prog, w) c E Ω s Q _ from Hq) _ _ _ kh (.str _ _ (Nat.le_trans (Txt.slice_le _ _ _) hx))) hx
  exact tail_any hT hl hg rfl
theorem tail_from {vs : List Value} {m : Int} (h0 : 0 ≤ m) : slicePick vs.toArray (some m) none none = (vs.drop m.toNat).toArray := by
  have := slicePick_from' vs.toArray m.toNat
  rw [Int.toNat_of_nonneg h0] at this
  simpa using this
theorem ev_behind {v u : Expr} {a i : IE} {sp p : Pos} (hE : SEv prog w b0 r n) (ok : c.Ok n) (st : St (prog, w) b0 c E φ Ω s.heap) (ha : CE c.env.scope v a) (hi : CE c.env.scope u i) (H : G (evI consts r φ (.behind a i)) (EvPost (prog, w) c E Ω s Q) (XPost c s Ex)) :
    wpAny (model prog w) c.A (eval (.Subscript v (.Slice (some u) none none sp) p) c.env) Q Ex s := by
  dsimp only [evI] at H
  refine Subscript_ (hE c E φ Ω s _ _ _ _ ok st ha (H.bind.mono (fun d _ Hd va h₁ tk₁ k₁ r₁ => ?_) fun _ _ X => X))
  refine wpAny_Slice (wpAny_evalPart_some ?_)
  refine hE c E φ Ω { s with heap := h₁, toks := tk₁ } _ _ _ _ ok (st.kp k₁) hi (Hd.bind.mono (fun e _ He vi h₂ tk₂ k₂ r₂ => wpAny_evalPart_none (wpAny_evalPart_none ?_)) fun _ _ X => X.step k₁)
  have k := k₁.trans k₂
  have r₁' := r₁.mono (k₂.up fun _ _ => by simp) fun _ _ x _ => x
  obtain ⟨ad, vs, ds, rfl, h0, la, ra, He⟩ := G.rList He r₁'
  obtain ⟨m, t, rfl, He⟩ := G.rInt He r₂
  obtain ⟨q, Hq⟩ := G.need He
  have kb : ∀ b o, h₂.get? b = some o → (h₂.push { cls := .type "slice", data := .fields #[.int m t, .none, .none] }).get? b = some o := fun _ _ e => Heap.get?_push_of_some _ e
  generalize hh : h₂.push { cls := .type "slice", data := .fields #[.int m t, .none, .none] } = h₃ at kb
  have la' : ListAt h₃ ad vs := la.up fun o e _ => kb _ _ e
  obtain ⟨_, _, _, _, _, hsz⟩ := id la'
  have ks : Kp c.fs [] s.heap h₃ := k.trans (.of_keeps kb)
  have hsl := Heap.IsSliceOf.new h₂ (.int m t) .none .none
  rw [hh] at hsl
  refine tail_any la'.isList.typeIs slot_list_getitem.lookup (wpAny_getItem_list_slice (s := { s with heap := h₃, toks := tk₂ }) la'.isList hsl (.int m t) .none .none (by decide) ?_ (by rw [List.size_toArray]; exact hsz)) rfl
  rw [tail_from q.2.1]
  have ra' := (ra.mono (ok' := fun a => a ∉ E ∧ a ∉ c.Y Ω) (h' := h₃) (fun b o _ e _ => kb b o e) fun _ _ x _ => x q.1).drop m.toNat
  exact (show EvPost (prog, w) c E Ω s Q _ from Hq) _ _ _ (ks.trans (push_kp _)) ((new_list ((st.kp ks).next (f := true) rfl) (by rw [List.length_drop]; omega) ra').weak fun _ x _ => x)
end
end Mine
end

section
set_option Elab.async false
namespace Mine
open PySem PySem.W PySem.Calls PyProof.Rows PySem.Builtin PySem.Builtin.Str

theorem RA.strs {P : Program × World} {ok : Addr → Prop} {h : Heap} {ds : List V} {vs : List Value} {ks : List PySem.Str} (ra : RA P ok h vs ds) (hk : strsOf ds = some ks) : ∃ l : List (PySem.Str × Tok), vs = strValues l ∧ l.map (·.1) = ks := by
  induction ds generalizing vs ks with
  | nil => cases ra; cases hk; exact ⟨[], rfl, rfl⟩
  | cons d ds ih =>
    cases ra with
    | cons r ra =>
      cases r <;> first | (cases hk; done) | skip
      rename_i x t hx
      dsimp only [strsOf] at hk
      cases hs : strsOf ds with
      | none => rw [hs] at hk; cases hk
      | some ks' =>
        rw [hs] at hk
        cases hk
        obtain ⟨l, e1, e2⟩ := ih ra hs
        exact ⟨(x, t) :: l, by rw [e1]; rfl, by rw [← e2]; rfl⟩
theorem RA.of_strs {P : Program × World} {ok : Addr → Prop} {h : Heap} (l : List (PySem.Str × Tok)) (hl : ∀ a ∈ l.map (·.1), a.length ≤ sizeLine) : RA P ok h (strValues l) ((l.map (·.1)).map V.str) := by
  induction l with
  | nil => exact .nil
  | cons p l ih => exact .cons (.str p.1 p.2 (hl p.1 (.head _))) (ih fun a ha => hl a (.tail _ ha))
section
variable {prog : Program} {w : World} {A : Around} {Ex : Value → Shared → Prop} {s : Shared} {x y : PySem.Str} {t u : Tok} {Q : Value → Shared → Prop}
theorem sp0 (hsz : x.length ≤ sizeLine) (hsz2 : (spaceWords x (x.length + 1)).length ≤ sizeLine)
    (h : ∀ (l : List (PySem.Str × Tok)) k, l.map (·.1) = Txt.words x → Q (.ref s.heap.objs.size) { s with heap := s.heap.push { cls := .type "list", data := .seq (strValues l).toArray }, toks := k }) :
    wpAny (model prog w) A (call (.builtin "str.split") [.str x t]) Q Ex s := by
  refine call_meets F.slot_str_split (typeIs_str _ _ _) F.entry_str_split (F.args_str_split_1 _) (meets_str_split_space x t hsz hsz2) ?_
  cases hw : spaceWords x (x.length + 1) == [(0, x.length)]
  · simp only [Bool.false_eq_true, if_false]
    rw [strsFrom_eq]
    exact h (numbered s.toks (PySem.wordsOf x)) _ ((numbered_texts _ _).trans (if_neg (ne_true_of_eq_false hw)).symm)
  · simp only [if_true]
    exact h [(x, t)] s.toks (if_pos hw).symm
theorem sp1 (hy : (y.length == 0) = false) (hsz : x.length ≤ sizeLine) (hsz2 : (partsBetween x (occurrences x y 0 x.length (x.length + 1)) y.length).length ≤ sizeLine)
    (hq : ∀ (l : List (PySem.Str × Tok)) k, l.map (·.1) = Txt.split x y → Q (.ref s.heap.objs.size) { s with heap := s.heap.push { cls := .type "list", data := .seq (strValues l).toArray }, toks := k }) :
    wpAny (model prog w) A (call (.builtin "str.split") [.str x t, .str y u]) Q Ex s := by
  cases h1 : (decide (x.length < y.length) || decide (PySem.Builtin.Str.strKind x < PySem.Builtin.Str.strKind y))
  · cases hf : (occurrences x y 0 x.length (x.length + 1)).isEmpty
    · refine call_meets F.slot_str_split (typeIs_str _ _ _) F.entry_str_split (F.args_str_split_2 _ _) (meets_str_split_sep x y t u h1 hy hf hsz hsz2) ?_
      show wants Q Ex _ { s with toks := _, heap := s.heap.push { cls := .type "list", data := .seq (strsFrom s.toks (partsBetween x (occurrences x y 0 x.length (x.length + 1)) y.length)).toArray } }
      rw [strsFrom_eq]
      exact hq (numbered s.toks _) _ ((numbered_texts _ _).trans ((if_neg (ne_true_of_eq_false h1)).trans (if_neg (ne_true_of_eq_false hf))).symm)
    · exact call_meets F.slot_str_split (typeIs_str _ _ _) F.entry_str_split (F.args_str_split_2 _ _) (meets_str_split_not_found x y t u h1 hy hf)
        (hq [(x, t)] s.toks ((if_neg (ne_true_of_eq_false h1)).trans (if_pos hf)).symm)
  · exact call_meets F.slot_str_split (typeIs_str _ _ _) F.entry_str_split (F.args_str_split_2 _ _) (meets_str_split_cannot_occur x y t u h1)
      (hq [(x, t)] s.toks (if_pos h1).symm)
end
theorem spaceWords_le (x : PySem.Str) : (spaceWords x (x.length + 1)).length ≤ x.length + 1 := by
  have hw := StrLaws.sw_weight x
  have hm : ∀ l : List (Nat × Nat), l.length ≤ StrLaws.wsum l := by
    intro l
    induction l with
    | nil => exact Nat.zero_le _
    | cons p l ih => simp only [StrLaws.wsum, List.length_cons] at *; omega
  exact Nat.le_trans (hm _) hw.1
section
variable {prog : Program} {w : World} {b0 : Heap} {mg mb : PySem.Str → Option Value} {consts : String → Option V} {r : Rec} {n : Nat} {c : Cx} {E : List Addr} {φ : Frm} {Ω : List (String × Addr)} {s : Shared} {Q : Value → Shared → Prop} {Ex : Value → Shared → Prop} {A : Around}

theorem meth_sound {nme : String} {m : Mth} {x : PySem.Str} {t : Tok} {vs : List Value} {ds : List V} {okk : Addr → Prop} {X : Msg → Prop} {k : Nat} (hm : CMth nme k m) (hx : x.length ≤ sizeLine) (ra : RA (prog, w) okk s.heap vs ds)
    (H : G (methV m x ds) (fun d => ∀ v h' tk, Kp c.fs [] s.heap h' → (∀ ok : Addr → Prop, ok s.heap.objs.size → R (prog, w) ok h' v d) → Q v { s with heap := h', toks := tk }) X) :
    wpAny (model prog w) A (call (.builtin ("str." ++ nme)) (.str x t :: vs)) Q Ex s := by
  have hl2 : lim + 2 ≤ sizeLine := by rw [sizeLine_eq]; decide
  have b : ∀ {b : Bool}, (∀ v h' tk, Kp c.fs [] s.heap h' → (∀ ok : Addr → Prop, ok s.heap.objs.size → R (prog, w) ok h' v (.bool b)) → Q v { s with heap := h', toks := tk }) → Q (.bool b) s := fun h => h _ _ s.toks .refl fun _ _ => .bool _
  have st : ∀ {y : PySem.Str} {t' k'}, (∀ v h' tk, Kp c.fs [] s.heap h' → (∀ ok : Addr → Prop, ok s.heap.objs.size → R (prog, w) ok h' v (.str y)) → Q v { s with heap := h', toks := tk }) → y.length ≤ sizeLine → Q (.str y t') { s with toks := k' } := fun h hy => h _ _ _ .refl fun _ _ => .str _ _ hy
  have li : ∀ {ys : List PySem.Str} {l : List (PySem.Str × Tok)} {k'}, (∀ v h' tk, Kp c.fs [] s.heap h' → (∀ ok : Addr → Prop, ok s.heap.objs.size → R (prog, w) ok h' v (.list (ys.map V.str))) → Q v { s with heap := h', toks := tk }) → l.map (·.1) = ys → (∀ a ∈ l.map (·.1), a.length ≤ sizeLine) → l.length ≤ sizeLine →
      Q (.ref s.heap.objs.size) { s with heap := s.heap.push { cls := .type "list", data := .seq (strValues l).toArray }, toks := k' } := by
    intro ys l k' h e hl hlen
    subst e
    exact h _ _ _ (push_kp _) fun ok h0 => new_list h0 (by simpa [strValues] using hlen) (RA.of_strs l hl)
  have noA : ∀ {z : Res V} {PV : V → Prop}, G (arg0 ds z) PV X → vs = [] ∧ G z PV X := by
    intro z PV H
    obtain ⟨rfl, H⟩ := H.arg0
    cases ra
    exact ⟨rfl, H⟩
  have one : ∀ {f : PySem.Str → Res V} {PV : V → Prop}, G (arg1 ds fun d => onStr d f) PV X → ∃ y u, vs = [.str y u] ∧ G (f y) PV X := by
    intro f PV H
    obtain ⟨d, rfl, H⟩ := H.arg1
    cases ra with
    | cons a b =>
      cases b
      obtain ⟨y, u, rfl, _, H⟩ := H.rStr a
      exact ⟨y, u, rfl, H⟩
  cases hm
  · obtain ⟨rfl, H⟩ := noA H
    exact SCL.strip (fun t' k hlen => st H (Nat.le_trans hlen hx)) hx
  · obtain ⟨rfl, H⟩ := noA H
    exact SC.isprintable (b H)
  · obtain ⟨rfl, H⟩ := noA H
    exact SC.isascii (b H)
  · obtain ⟨rfl, H⟩ := noA H
    exact SC.isdigit (b H)
  · obtain ⟨y, u, rfl, H⟩ := one H
    exact SCL.removeprefix (fun t' k hlen => st H (Nat.le_trans hlen hx)) hx
  · obtain ⟨y, u, rfl, H⟩ := one H
    exact SCL.lstripChars (fun t' k hlen => st H (Nat.le_trans hlen hx)) hx
  · obtain ⟨y, u, rfl, H⟩ := one H
    exact SC.startswith (b H)
  · obtain ⟨rfl, H⟩ := noA H
    obtain ⟨hlim, H⟩ := H.need
    have hw := spaceWords_le x
    refine sp0 hx (by omega) fun l k e => li H e (fun a ha => ?_) ?_
    · rw [e] at ha; exact Nat.le_trans (word_short ha) hx
    · have := len_le_of_words e; omega
  · obtain ⟨y, u, rfl, H⟩ := one H
    obtain ⟨hlim, H⟩ := H.need
    have hp : (partsBetween x (occurrences x y 0 x.length (x.length + 1)) y.length).length ≤ sizeLine := by
      rw [len_partsBetween]
      have := StrLaws.occ_length_le x y 0 x.length (x.length + 1)
      omega
    refine sp1 (by simpa using hlim.2) hx hp fun l k e => li H e (fun a ha => ?_) ?_
    · rw [e] at ha; exact Nat.le_trans (part_short ha) hx
    · have := len_le_of_split e; omega
  · obtain ⟨d, rfl, H⟩ := G.arg1 H
    cases ra with
    | cons a b =>
      cases b
      obtain ⟨D, vs', es, rfl, _, la, ra', H⟩ := H.rList a
      obtain ⟨ks, hks, H⟩ := H.onO
      obtain ⟨hlim, H⟩ := H.need
      obtain ⟨l, rfl, e⟩ := ra'.strs hks
      have hok : JoinOk x ks = true := by
        unfold JoinOk
        rw [StrLaws.joinTotal]
        have : ¬ ((ks.map (·.length)).sum + ks.length * x.length > sizeLine) := by omega
        simp only [Bool.not_eq_true', tooLong]
        exact decide_eq_false this
      exact SC.join la.isList e hok fun t' k => st H (joinOk_length hok)
theorem CEs.all {sc : Scope} {es : List Expr} {is : List IE} (h : CEs sc es is) (env : Env) (p : Pos) : (backTo p (starEach es env)).all (fun x => !x.1) = true := by
  induction es generalizing is with
  | nil => rfl
  | cons e es ih =>
    cases h with
    | cons a b => rw [a.star]; show (true && _) = true; exact ih b
theorem RU.any {P : Program × World} {ok : Addr → Prop} {h : Heap} {vs us} (r : RU P ok h vs us) : RA P (fun _ => True) h vs (us.map (·.1)) := by
  induction r with
  | nil => exact .nil
  | cons a _ ih => exact .cons a.any ih
theorem mth_slot {nme : String} {k : Nat} {m : Mth} (h : CMth nme k m) : PySem.Slot "str" (nm nme) ("str." ++ nme) ∧ typeOf (.builtin ("str." ++ nme)) = pure (.type "method_descriptor") := by
  cases h
  · exact ⟨F.slot_str_strip, F.type_str_strip⟩
  · exact ⟨F.slot_str_isprintable, F.type_str_isprintable⟩
  · exact ⟨F.slot_str_isascii, F.type_str_isascii⟩
  · exact ⟨F.slot_str_isdigit, F.type_str_isdigit⟩
  · exact ⟨F.slot_str_removeprefix, F.type_str_removeprefix⟩
  · exact ⟨F.slot_str_lstrip, F.type_str_lstrip⟩
  · exact ⟨F.slot_str_startswith, F.type_str_startswith⟩
  · exact ⟨F.slot_str_split, F.type_str_split⟩
  · exact ⟨F.slot_str_split, F.type_str_split⟩
  · exact ⟨F.slot_str_join, F.type_str_join⟩
theorem mth_few {nme : String} {k : Nat} {m : Mth} (h : CMth nme k m) : k < 30 := by cases h <;> decide
theorem ev_meth {o : Expr} {a : IE} {args : List Expr} {is : List IE} {nme : String} {m : Mth} {ap p : Pos} (hE : SEv prog w b0 r n) (ok : c.Ok n) (st : St (prog, w) b0 c E φ Ω s.heap) (hm : CMth nme args.length m)
    (hb : ∀ env, attributeBase o (nm nme) env (eval o env) = eval o env) (hl : (ap.endLine == p.line) = true) (ho : CE c.env.scope o a) (ha : CEs c.env.scope args is)
    (H : G (evI consts r φ (.meth m a is)) (EvPost (prog, w) c E Ω s Q) (XPost c s Ex)) : wpAny (model prog w) c.A (eval (.Call (.Attribute o (nm nme) ap) args [] p) c.env) Q Ex s := by
  dsimp only [evI] at H
  have hfew := mth_few hm
  refine wpAny_Call_method (T := "str") (id := "str." ++ nme) (hb _) ?_ hl F.plainAttrs_str (mth_slot hm).1 (mth_slot hm).2 ?_
  · rw [ha.all]
    show (true && true && decide (args.length + 0 + 0 < 30)) = true
    rw [decide_eq_true (by omega)]; rfl
  refine hE c E φ Ω s _ _ _ _ ok st ho (H.bind.mono (fun u _ Hu v h₁ tk₁ k₁ r₁ => ?_) fun _ _ X => X)
  obtain ⟨x, t, rfl, hx, Hu⟩ := Hu.rStr r₁
  refine ⟨typeIs_str _ _ _, (fun _ e => nomatch e), ?_⟩
  have fin : ∀ us vs h₂ tk₂, G ((methV m x (us.map (·.1))).bind fun d => Res.ok (d, true)) (EvPost (prog, w) c E Ω s Q) (XPost c s Ex) → Kp c.fs [] s.heap h₂ → RU (prog, w) (fun a => a ∉ E ∧ a ∉ c.Y Ω) h₂ vs us →
      wpAny (model prog w) c.A (call (.builtin ("str." ++ nme)) (.str x t :: vs)) Q Ex { s with heap := h₂, toks := tk₂ } := fun us vs h₂ tk₂ Hm k₂ ru =>
    meth_sound (s := { s with heap := h₂, toks := tk₂ }) (c := c) hm hx ru.any (Hm.bind.mono (fun d _ Hd v h' tk k rv => (show EvPost (prog, w) c E Ω s Q (d, true) from Hd) _ _ _ (k₂.trans k) (rv _ fun q => (st.kp k₂).next q)) fun _ _ X => X)
  cases ha with
  | nil => exact callWith_method0 (fin [] [] h₁ tk₁ Hu k₁ .nil)
  | cons a0 as =>
    refine callWith_method1 ?_ (a0.star _ _) (CEs.plain as _ _)
    exact ev_args (s := { s with heap := h₁, toks := tk₁ }) hE ok (.cons a0 as) (st.kp k₁) (Hu.bind.mono (fun us hus Hus vs h₂ tk₂ k₂ r₂ => fin us vs h₂ tk₂ Hus (k₁.trans k₂) r₂) fun _ _ X => X.step k₁)
end
end Mine
end

section
set_option Elab.async false
namespace Mine
open PySem PySem.W PySem.Calls PyProof.Rows PySem.Builtin PySem.Builtin.Str

theorem kind_ascii : builtinKind "ascii" = none := by decide +kernel
theorem plain_ascii : plainId "ascii" = true := by decide +kernel
theorem entry_ascii : entryFor table "ascii" = some Builtin.«ascii» := entryFor_of_tree (by kernel_rfl)
theorem args_ascii1 (a : Value) : argsOk "ascii" ⟨[a], []⟩ := by unfold argsOk; kernel_rfl
section
variable {prog : Program} {w : World} {b0 : Heap} {mg mb : PySem.Str → Option Value} {consts : String → Option V} {r : Rec} {n : Nat} {c : Cx} {E : List Addr} {φ : Frm} {Ω : List (String × Addr)} {s : Shared} {Q : Value → Shared → Prop} {Ex : Value → Shared → Prop} {A : Around}

theorem ascii_str {x : PySem.Str} {t : Tok} (h1 : (reprText x).length ≤ 100000) (h2 : (asciiText x).length ≤ lim) (H : ∀ t tk, Q (.str (asciiText x) t) { s with toks := tk }) :
    wpAny (model prog w) A (call (.builtin "ascii") [.str x t]) Q Ex s := by
  refine Calls.call_function_entry kind_ascii plain_ascii entry_ascii (args_ascii1 _) ?_
  unfold Builtin.«ascii»
  have hv : [Value.str x t].any Value.onHeap = false := rfl
  refine wpAny_bind (m := oneArg "ascii" _) (wpAny_pure ?_)
  simp only [cRoomFor, hv, Bool.false_eq_true, if_false, pure_bind]
  have hx : (reprText x).length ≤ sizeLine := by rw [sizeLine_eq]; omega
  refine wpAny_bind (m := callSpecialIfBound? (.str x t) (Str.ofString "__repr__")) (wpAny_callSpecialIfBound?_slot (name := Str.ofString "__repr__") (typeIs_str _ _ _) F.slot_str_repr (call_gives F.slot_str_repr (typeIs_str _ _ _) F.entry_str_repr (F.args_str_repr_1 _) (gives_str_repr x t) ⟨hx, ?_⟩))
  refine wpAny_bind (m := asStr? (.str (reprText x) s.toks)) (wpAny_pure ?_)
  by_cases ha : (reprText x).cps.all (· < 128) = true
  · have e : asciiText x = reprText x := by unfold asciiText; rw [if_pos ha]
    rw [e] at H
    simp only [ha, if_true]
    exact wpAny_bind (wpAny_rule (wpAny_pure ⟨_, rfl, H _ _⟩))
  · have e : asciiText x = ⟨(reprText x).cps.flatMap fun c => (ascEsc c).toArray⟩ := by unfold asciiText; rw [if_neg ha]
    rw [e] at H h2
    simp only [ha]
    refine wpAny_bind (wpAny_letGo ?_)
    have hbig : decide (10 * (reprText x).length > sizeLine) = false := decide_eq_false (by rw [sizeLine_eq]; omega)
    simp only [hbig, Bool.false_and]
    refine wpAny_bind (wpAny_mkStr (wpAny_pure ⟨_, rfl, H _ _⟩) ?_)
    exact Nat.le_trans h2 lim_lt
theorem fv_asc {value : Expr} {pos : Pos} {env : Env} (h : wpAny (model prog w) A (eval value env) (fun v s₁ => wpAny (model prog w) A (call (.builtin "ascii") [v]) (fun r s₂ => wpAny (model prog w) A (formatField r PySem.Str.empty) Q Ex s₂) Ex s₁) Ex s) :
    wpAny (model prog w) A (eval (.FormattedValue value 97 none pos) env) Q Ex s := by
  rw [arm_eval_FormattedValue]
  refine wpAny_bind (wpAny_mono h (fun v s₁ h₁ => ?_) fun _ _ x => x)
  refine wpAny_bind (wpAny_standAt ?_)
  show wpAny _ _ (do let v' ← holding [v] (call (.builtin "ascii") [v]); formatField v' PySem.Str.empty) Q Ex s₁
  exact wpAny_bind (wpAny_holding h₁)

noncomputable def PtPost (c : Cx) (s : Shared) (Q : Value → Shared → Prop) (x : PySem.Str) : Prop := ∀ t h' tk, Kp c.fs [] s.heap h' → x.length ≤ sizeLine → Q (.str x t) { s with heap := h', toks := tk }
theorem part_sound {v : Expr} {fp : FP} (hE : SEv prog w b0 r n) (ok : c.Ok n) (st : St (prog, w) b0 c E φ Ω s.heap) (hf : CF c.env.scope v fp) (H : G (partI r φ fp) (PtPost c s Q) (XPost c s Ex)) :
    wpAny (model prog w) c.A (eval v c.env) Q Ex s := by
  obtain ⟨n', h, o⟩ := hf.one
  rw [← h]
  cases fp with
  | lit x =>
    have hx := shortB_ok o
    exact wpAny_Constant_str ((show PtPost c s Q _ from H) _ s.heap _ .refl hx)
  | fmt i =>
    have he := mkE (congrArg (kid 0) h) o
    dsimp only [partI] at H
    refine wpAny_FormattedValue_plain (hE c E φ Ω s _ _ _ _ ok st he (H.bind.mono (fun u _ Hu v h₁ tk₁ k₁ r₁ => ?_) fun _ _ X => X))
    obtain ⟨d, f⟩ := u
    cases d <;> first | exact (show False from Hu).elim | skip
    · rename_i i _
      rcases G.ite (show G (if i.natAbs < 2 ^ 100 then Res.ok (PySem.Str.ofString (toString i)) else Res.bad) _ _ from Hu) with ⟨q, Hq⟩ | ⟨_, Hq⟩
      · obtain ⟨t, rfl⟩ := r₁.inv_int
        exact wpAny_formatField_int (log2_ok q) ((show PtPost c s Q _ from Hq) _ _ _ k₁ (int_text_fits (log2_ok q)))
      · exact Hq.elim
    · obtain ⟨t, rfl, hx⟩ := r₁.inv_str
      have Hu' : PtPost c s Q _ := Hu
      exact wpAny_formatField_str (Hu' _ _ _ k₁ hx) (Hu' _ _ _ k₁ hx) hx
  | asc i =>
    have he := mkE (congrArg (kid 0) h) o
    dsimp only [partI] at H
    refine fv_asc (hE c E φ Ω s _ _ _ _ ok st he (H.bind.mono (fun u _ Hu v h₁ tk₁ k₁ r₁ => ?_) fun _ _ X => X))
    obtain ⟨x, t, rfl, hx, Hu⟩ := Hu.rStr r₁
    obtain ⟨q, Hq⟩ := Hu.need
    have hs : (asciiText x).length ≤ sizeLine := Nat.le_trans q.2 lim_lt
    exact ascii_str q.1 q.2 fun t tk => wpAny_formatField_str (Hq _ _ _ k₁ hs) (Hq _ _ _ k₁ hs) hs
theorem parts_sound (hE : SEv prog w b0 r n) (ok : c.Ok n) {vs : List Expr} {fps : List FP} (hf : CFs c.env.scope vs fps) : ∀ {out : PySem.Str} {s : Shared}, out.length ≤ sizeLine → St (prog, w) b0 c E φ Ω s.heap → G (partsI r φ out fps) (PtPost c s Q) (XPost c s Ex) →
    wpAny (model prog w) c.A (joinParts out (evalEach vs c.env)) Q Ex s := by
  induction hf with
  | nil => exact fun ho _ H => joinParts_nil ((show PtPost c _ Q _ from H) _ _ _ .refl ho) ho
  | cons hf _ ih =>
    intro out s ho st H
    rename_i v vs fp fps _
    show wpAny _ _ (joinParts out (eval v c.env :: evalEach vs c.env)) Q Ex s
    refine joinParts_cons (part_sound hE ok st hf ((G.bind (res := partI r φ fp) H).mono (fun x _ Hx t h₁ tk₁ k₁ hx => ?_) fun _ _ X => X))
    obtain ⟨q, Hq⟩ := G.need Hx
    have hs : (out ++ x).length ≤ sizeLine := by rw [PySem.Str.length_append]; have := lim_lt; omega
    exact ⟨hs, ih (s := { s with heap := h₁, toks := tk₁ }) hs (st.kp k₁) (Hq.mono (fun y _ Hy t h' tk k hl => Hy t h' tk (k₁.trans k) hl) fun _ _ X => X.step k₁)⟩
theorem ev_fstr {v₁ v₂ : Expr} {vs : List Expr} {ps : List FP} {p : Pos} (hE : SEv prog w b0 r n) (ok : c.Ok n) (st : St (prog, w) b0 c E φ Ω s.heap) (hf : CFs c.env.scope (v₁ :: v₂ :: vs) ps) (H : G (evI consts r φ (.fstr ps)) (EvPost (prog, w) c E Ω s Q) (XPost c s Ex)) :
    wpAny (model prog w) c.A (eval (.JoinedStr (v₁ :: v₂ :: vs) p) c.env) Q Ex s := by
  dsimp only [evI] at H
  exact JoinedStr_many (parts_sound hE ok hf (by decide) st (H.bind.mono (fun x _ Hx t h' tk k hx => (show EvPost (prog, w) c E Ω s Q _ from Hx) _ _ _ k (.str _ _ hx)) fun _ _ X => X))

/-! ## dicts -/
theorem valueAt_lookup (k : PySem.Str) {P : Program × World} {okk : Addr → Prop} {h : Heap} {ps : List (PySem.Str × Value)} : ∀ {ds : List V}, RA P okk h (ps.map (·.2)) ds → (((ps.map (·.1)).zip ds).lookup k).isSome = (valueAt ps k).isSome ∧ ∀ d, ((ps.map (·.1)).zip ds).lookup k = some d → ∃ v, valueAt ps k = some v ∧ R P okk h v d := by
  induction ps with
  | nil => intro ds ra; cases ra; exact ⟨rfl, fun _ q => nomatch q⟩
  | cons p ps ih =>
    obtain ⟨k', v⟩ := p
    intro ds ra
    cases ra with
    | cons r ra =>
    rename_i d ds
    have ih := ih ra
    have e1 : ((((k', v) :: ps).map (·.1)).zip (d :: ds)).lookup k = if k = k' then some d else ((ps.map (·.1)).zip ds).lookup k := by
      show (match k == k' with | true => some d | false => ((ps.map Prod.fst).zip ds).lookup k) = _
      by_cases e : k = k'
      · subst e; simp
      · rw [if_neg e, beq_eq_false_iff_ne.mpr e]
    have e2 : valueAt ((k', v) :: ps) k = if k = k' then some v else valueAt ps k := by
      unfold valueAt
      rw [List.find?_cons]
      by_cases e : k = k'
      · subst e; simp
      · rw [if_neg e, show decide (((k', v) : PySem.Str × Value).1 = k) = false from decide_eq_false fun z => e z.symm]
    rw [e1, e2]
    by_cases e : k = k'
    · simp only [if_pos e]
      exact ⟨rfl, fun d' q => by cases q; exact ⟨v, rfl, r⟩⟩
    · simp only [if_neg e]; exact ih
theorem zip_len {ps : List (PySem.Str × Value)} {ds : List V} {P : Program × World} {okk : Addr → Prop} {h : Heap} (ra : RA P okk h (ps.map (·.2)) ds) : ((ps.map (·.1)).zip ds).length = ps.length := by
  have := ra.length
  rw [List.length_zip, List.length_map]
  rw [List.length_map] at this
  omega
theorem strIs (x : PySem.Str) (t : Tok) : (strKind prog w).is x (.str x t) = true := by
  show Value.isStrOf x (.str x t) = true
  simp [Value.isStrOf]
theorem len_sound {d : V} {v : Value} {okk : Addr → Prop} {X : Msg → Prop} (r₁ : R (prog, w) okk s.heap v d) (H : G (lenV d) (fun k => ∀ t tk, Q (.int k t) { s with toks := tk }) X) : wpAny (model prog w) A (call (.builtin "len") [v]) Q Ex s := by
  cases r₁ with
  | none => exact (show False from H).elim
  | bool => exact (show False from H).elim
  | int => exact (show False from H).elim
  | str x t hx => exact PySem.P.len_str (by have := len63 hx; omega) (H _ _)
  | tuple h0 h1 h2 h3 hs h4 =>
    refine PyProof.Rows.len_tuple ⟨_, h1, h2, _, h3⟩ (by rw [List.size_toArray]; exact len63 hs) ?_
    rw [List.size_toArray, h4.length]; exact H _ _
  | list h0 h1 h2 h3 hs h4 =>
    refine len_list ⟨_, h1, h2, _, h3⟩ (by rw [List.size_toArray]; exact len63 hs) ?_
    rw [List.size_toArray, h4.length]; exact H _ _
  | dict h0 h1 h2 h4 hs =>
    refine call_len_dict h2 h1 (len63 hs.1) ?_
    rw [← zip_len h4]; exact H _ _
theorem item_sound {d e : V} {v i : Value} {value slice : Expr} {okk okk' : Addr → Prop} {X : Msg → Prop} (r₁ : R (prog, w) okk s.heap v d) (r₂ : R (prog, w) okk' s.heap i e)
    (hs : ∀ o v, subscripted slice false o v = operate [o, v] (getItem o v)) (H : G (indexV d e) (fun x => ∀ v' tk, R (prog, w) okk s.heap v' x → Q v' { s with toks := tk }) X) : wpAny (model prog w) A (subscriptTail value slice v i) Q Ex s := by
  cases r₁ with
  | none => exact (show False from H).elim
  | bool => exact (show False from H).elim
  | int => exact (show False from H).elim
  | str => exact (show False from H).elim
  | tuple h0 h1 h2 h3 hsz h4 =>
    refine at_sound H r₂ h4 fun k t v' d e hk hlt hv rv Hd => ?_
    subst e
    exact item_tupleT ⟨_, h1, h2, _, h3⟩ (by omega) (by have := len63 hsz; omega) (seq_idx hk hlt) hv (Hd _ s.toks rv) (hs _ _)
  | list h0 h1 h2 h3 hsz h4 =>
    rename_i a o vs k' ds
    have hL : s.heap.IsList a vs.toArray := ⟨_, h1, h2, _, h3⟩
    refine at_sound H r₂ h4 fun k t v' d e hk hlt hv rv Hd => ?_
    subst e
    exact tail_any hL.typeIs slot_list_getitem.lookup (wpAny_getItem_list hL hk (by have := len63 hsz; omega) (by simpa using hv) (Hd _ s.toks rv)) (hs _ _)
  | dict h0 h1 h2 h4 hsz =>
    obtain ⟨y, t, rfl, _, H⟩ := G.rStr H r₂
    obtain ⟨d', hl, H⟩ := H.onO
    obtain ⟨v', hv, rv⟩ := (valueAt_lookup _ h4).2 _ hl
    exact tail_any h1.typeIs slot_dict_getitem.lookup (wpAny_getItem_of (strIs _ _) h1.mapOf hv (H _ _ rv)) (hs _ _)
theorem ev_len {x : Expr} {a : IE} {np p : Pos} (S : Stat (prog, w) b0 mg mb consts) (hE : SEv prog w b0 r n) (ok : c.Ok n) (st : St (prog, w) b0 c E φ Ω s.heap) (hn : GName c.env.scope "len") (ha : CE c.env.scope x a)
    (H : G (evI consts r φ (.len a)) (EvPost (prog, w) c E Ω s Q) (XPost c s Ex)) : wpAny (model prog w) c.A (eval (.Call (.Name (nm "len") np) [x] [] p) c.env) Q Ex s := by
  dsimp only [evI] at H
  refine call1_b S hE ok st hn (by decide) boot_len (by decide) ha (H.bind.mono (fun u _ Hu v h₁ tk₁ k₁ r₁ => ?_) fun _ _ X => X)
  refine len_sound (s := { s with heap := h₁, toks := tk₁ }) r₁ (Hu.bind.mono (fun k _ Hk t tk => (show EvPost (prog, w) c E Ω s Q (.int k, true) from Hk) _ _ _ k₁ (.int _ _)) fun _ _ X => X)
theorem ev_index {v sl : Expr} {a i : IE} {p : Pos} (hE : SEv prog w b0 r n) (ok : c.Ok n) (st : St (prog, w) b0 c E φ Ω s.heap) (ha : CE c.env.scope v a) (hi : CE c.env.scope sl i) (H : G (evI consts r φ (.index a i)) (EvPost (prog, w) c E Ω s Q) (XPost c s Ex)) :
    wpAny (model prog w) c.A (eval (.Subscript v sl p) c.env) Q Ex s := by
  dsimp only [evI] at H
  refine Subscript_ (hE c E φ Ω s _ _ _ _ ok st ha (H.bind.mono (fun u _ Hu va h₁ tk₁ k₁ r₁ => ?_) fun _ _ X => X))
  refine hE c E φ Ω { s with heap := h₁, toks := tk₁ } _ _ _ _ ok (st.kp k₁) hi (Hu.bind.mono (fun e _ He vi h₂ tk₂ k₂ r₂ => ?_) fun _ _ X => X.step k₁)
  have k := k₁.trans k₂
  have r₁' := r₁.mono (k₂.up fun _ _ => by simp) fun _ _ x _ => x
  exact item_sound (s := { s with heap := h₂, toks := tk₂ }) r₁' r₂ (fun _ _ => hi.subs _ _) (He.bind.mono (fun d _ Hd v' tk rv => (show EvPost (prog, w) c E Ω s Q (d, u.2) from Hd) _ _ _ k rv) fun _ _ X => X)
end
end Mine
end

section
set_option Elab.async false
namespace Mine
open PySem PySem.W PySem.Calls PyProof.Rows

theorem RA.reads {P : Program × World} {ok : Addr → Prop} {h : Heap} {vs : List Value} {ds : List V} (x : RA P ok h vs ds) : ∀ ps, V.pys ds = some ps → ∃ as, ReadsAll h vs ps as :=
  RA.rec (motive_1 := fun v d _ => ∀ p, V.py d = some p → ∃ as, Reads h v p as) (motive_2 := fun vs ds _ => ∀ ps, V.pys ds = some ps → ∃ as, ReadsAll h vs ps as)
    (fun _ e => by cases e; exact ⟨_, .none⟩) (fun b _ e => by cases e; exact ⟨_, .bool b⟩) (fun i t _ e => by cases e; exact ⟨_, .int i t⟩) (fun x t _ _ e => by cases e; exact ⟨_, .str x t⟩)
    (fun _ h1 h2 h3 _ _ ih _ e => by
      rw [V.py] at e
      obtain ⟨ps, hp, rfl⟩ := Option.map_eq_some_iff.mp e
      obtain ⟨as, q⟩ := ih ps hp
      exact ⟨_, .tuple h1 h2 h3 (by simpa using q)⟩)
    (fun _ h1 h2 h3 _ _ ih _ e => by
      rw [V.py] at e
      obtain ⟨ps, hp, rfl⟩ := Option.map_eq_some_iff.mp e
      obtain ⟨as, q⟩ := ih ps hp
      exact ⟨_, .list h1 h2 h3 (by simpa using q)⟩)
    (fun _ _ _ _ _ _ _ e => by cases e)
    (fun _ e => by cases e; exact ⟨_, .nil⟩)
    (fun {v vs d ds} _ _ i1 i2 _ e => by
      rw [V.pys] at e
      cases h1 : V.py d with
      | none => rw [h1] at e; cases e
      | some p =>
        cases h2 : V.pys ds with
        | none => rw [h1, h2] at e; cases e
        | some ps =>
          rw [h1, h2] at e
          cases e
          obtain ⟨as, q⟩ := i1 _ h1
          obtain ⟨bs, q'⟩ := i2 _ h2
          exact ⟨_, .cons q q'⟩) x
theorem R.reads {P : Program × World} {ok : Addr → Prop} {h : Heap} {v : Value} {d : V} {p : PyData} (r : R P ok h v d) (e : V.py d = some p) : ∃ as, Reads h v p as := by
  obtain ⟨as, q⟩ := RA.reads (.cons r .nil) [p] (by rw [V.pys, e]; rfl)
  cases q with
  | cons q _ => exact ⟨_, q⟩
section
variable {prog : Program} {w : World} {b0 : Heap} {mg mb : PySem.Str → Option Value} {consts : String → Option V} {r : Rec} {n : Nat} {c : Cx} {E : List Addr} {φ : Frm} {Ω : List (String × Addr)} {s : Shared} {Q : Value → Shared → Prop} {QB : Bool → Shared → Prop} {Ex : Value → Shared → Prop} {A : Around}

theorem eq_sound {d e : V} {v u : Value} {okk okk' : Addr → Prop} {PB : Bool → Prop} {X : Msg → Prop} (H : G (eqV d e) PB X) (r₁ : R (prog, w) okk s.heap v d) (r₂ : R (prog, w) okk' s.heap u e) (hu : A.units + 64 < cLine) :
    ∃ b, PB b ∧ (Q (.bool b) s → wpAny (model prog w) A (compareOp .Eq v u) Q Ex s) ∧ (Q (.bool (!b)) s → wpAny (model prog w) A (compareOp .NotEq v u) Q Ex s) := by
  have seq : ∀ {mk : List PyData → PyData} {a b : List V}, (∀ p, V.pys a = some p → ∃ as, Reads s.heap v (mk p) as) → (∀ p, V.pys b = some p → ∃ as, Reads s.heap u (mk p) as) → G (eqD mk a b) PB X →
      ∃ b, PB b ∧ (Q (.bool b) s → wpAny (model prog w) A (compareOp .Eq v u) Q Ex s) ∧ (Q (.bool (!b)) s → wpAny (model prog w) A (compareOp .NotEq v u) Q Ex s) := by
    intro mk a b h1 h2 H
    obtain ⟨p, hp, H⟩ := G.onO H
    obtain ⟨q, hq, H⟩ := G.onO H
    obtain ⟨hs, H⟩ := G.need H
    obtain ⟨as, ra⟩ := h1 p hp
    obtain ⟨bs, rb⟩ := h2 q hq
    exact ⟨_, H, fun h => eq_dataH ra rb hs.1 hs.2 hu h, fun h => ne_dataH ra rb hs.1 hs.2 hu h⟩
  cases d with
  | none => exact (show False from H).elim
  | bool => exact (show False from H).elim
  | dict => exact (show False from H).elim
  | int i =>
    obtain ⟨t, rfl⟩ := r₁.inv_int
    obtain ⟨j, t', rfl, H⟩ := G.rInt H r₂
    exact ⟨_, H, fun h => PyProof.Rows.eq_int h, fun h => PyProof.Rows.ne_int h⟩
  | str x =>
    obtain ⟨t, rfl, _⟩ := r₁.inv_str
    obtain ⟨j, t', rfl, _, H⟩ := G.rStr H r₂
    exact ⟨_, H, fun h => PyProof.Rows.eq_str h, fun h => PyProof.Rows.ne_str h⟩
  | list a =>
    obtain ⟨b, rfl, H⟩ := G.onList H
    exact seq (fun p hp => r₁.reads (by rw [V.py, hp]; rfl)) (fun p hp => r₂.reads (by rw [V.py, hp]; rfl)) H
  | tuple a =>
    obtain ⟨b, rfl, H⟩ := G.onTup H
    exact seq (fun p hp => r₁.reads (by rw [V.py, hp]; rfl)) (fun p hp => r₂.reads (by rw [V.py, hp]; rfl)) H
theorem strsAre (l : List (PySem.Str × Tok)) : StrsAre (strValues l) (l.map (·.1)) := by
  induction l with
  | nil => exact .nil
  | cons p l ih => exact .cons p.1 p.2 ih
theorem in_sound {d e : V} {v u : Value} {okk okk' : Addr → Prop} {PB : Bool → Prop} {X : Msg → Prop} (H : G (inV d e) PB X) (r₁ : R (prog, w) okk s.heap v d) (r₂ : R (prog, w) okk' s.heap u e) :
    ∃ b, PB b ∧ ((∀ tk, Q (.bool b) { s with toks := tk }) → wpAny (model prog w) A (compareOp .In v u) Q Ex s) ∧ ((∀ tk, Q (.bool (!b)) { s with toks := tk }) → wpAny (model prog w) A (compareOp .NotIn v u) Q Ex s) := by
  obtain ⟨k, t, rfl, _, H⟩ := G.rStr H r₁
  cases r₂ with
  | none => exact (show False from H).elim
  | bool => exact (show False from H).elim
  | int => exact (show False from H).elim
  | str => exact (show False from H).elim
  | tuple => exact (show False from H).elim
  | list h0 h1 h2 h3 hs ra =>
    obtain ⟨ks, hk, H⟩ := G.onO H
    obtain ⟨l, rfl, e⟩ := ra.strs hk
    have hi := strsAre l
    rw [e] at hi
    exact ⟨_, H, fun h => in_list_strs ⟨_, h1, h2, _, h3⟩ hi (h s.toks), fun h => notin_list_strs ⟨_, h1, h2, _, h3⟩ hi (h s.toks)⟩
  | dict h0 h1 h2 h4 hs =>
    refine ⟨_, H, ?_⟩
    rw [(valueAt_lookup _ h4).1]
    exact ⟨fun h => wpAny_in_of (strIs _ _) h2 h1.mapOf (h _), fun h => wpAny_notIn_of (strIs _ _) h2 h1.mapOf (h _)⟩
theorem cmp_sound {o : CmpOp} {op : COp} {d e : V} {v u : Value} {okk okk' : Addr → Prop} {X : Msg → Prop} (ho : COpC o op) (r₁ : R (prog, w) okk s.heap v d) (r₂ : R (prog, w) okk' s.heap u e) (hu : A.units + 64 < cLine)
    (H : G (cmpV op d e) (fun b => ∀ tk, Q (.bool b) { s with toks := tk }) X) : wpAny (model prog w) A (compareOp o v u) Q Ex s := by
  cases ho
  · obtain ⟨b, Hb, h, _⟩ := eq_sound (Q := Q) (Ex := Ex) H r₁ r₂ hu
    exact h (Hb s.toks)
  · obtain ⟨b, Hb, _, h⟩ := eq_sound (Q := Q) (Ex := Ex) (G.bind H) r₁ r₂ hu
    exact h (Hb s.toks)
  · obtain ⟨i, t, rfl, H⟩ := G.rInt H r₁
    obtain ⟨j, t', rfl, H⟩ := G.rInt H r₂
    exact PySem.P.lt_int (H s.toks)
  · obtain ⟨i, t, rfl, H⟩ := G.rInt H r₁
    obtain ⟨j, t', rfl, H⟩ := G.rInt H r₂
    exact PySem.P.gt_int (H s.toks)
  · obtain ⟨i, t, rfl, H⟩ := G.rInt H r₁
    obtain ⟨j, t', rfl, H⟩ := G.rInt H r₂
    exact PySem.P.ge_int (H s.toks)
  · obtain ⟨b, Hb, h, _⟩ := in_sound (Q := Q) (Ex := Ex) (A := A) H r₁ r₂
    exact h Hb
  · obtain ⟨b, Hb, _, h⟩ := in_sound (Q := Q) (Ex := Ex) (A := A) (G.bind H) r₁ r₂
    exact h Hb
theorem Cx.Ok.u64 (ok : c.Ok n) : c.A.units + 64 < cLine := by have := ok.units; omega

theorem ts_tt {e : Expr} {i : IE} (hE : SEv prog w b0 r n) (ok : c.Ok n) (st : St (prog, w) b0 c E φ Ω s.heap) (he : CE c.env.scope e i) (hi : ∀ env whole, isTrue e env whole = (do let v ← whole; standAt e.pos; holding [v] (truthy v)))
    (H : G (tsI r φ (.tt i)) (TsPost c s QB) (XPost c s Ex)) : wpAny (model prog w) c.A (isTrue e c.env (eval e c.env)) QB Ex s := by
  dsimp only [tsI] at H
  refine wpAny_isTrue_value (hE c E φ Ω s _ _ _ _ ok st he (H.bind.mono (fun u _ Hu v h₁ tk₁ k₁ r₁ => ?_) fun _ _ X => X)) (hi _ _)
  exact tr r₁ Hu fun b tk Hb => Hb _ _ k₁
theorem ts_cmp {l rr : Expr} {o : CmpOp} {op : COp} {a b : IE} {p : Pos} (hE : SEv prog w b0 r n) (ok : c.Ok n) (st : St (prog, w) b0 c E φ Ω s.heap) (ho : COpC o op) (ha : CE c.env.scope l a) (hb : CE c.env.scope rr b)
    (H : G (tsI r φ (.cmp op a b)) (TsPost c s QB) (XPost c s Ex)) {whole : Sem Value} : wpAny (model prog w) c.A (isTrue (.Compare l [o] [rr] p) c.env whole) QB Ex s := by
  dsimp only [tsI] at H
  refine wpAny_isTrue_Compare1 (hE c E φ Ω s _ _ _ _ ok st ha (H.bind.mono (fun u _ Hu v h₁ tk₁ k₁ r₁ => ?_) fun _ _ X => X)) (hb.noMark _)
  refine hE c E φ Ω { s with heap := h₁, toks := tk₁ } _ _ _ _ ok (st.kp k₁) hb (Hu.bind.mono (fun e _ He vi h₂ tk₂ k₂ r₂ => ?_) fun _ _ X => X.step k₁)
  have r₁' := r₁.mono (k₂.up fun _ _ => by simp) fun _ _ x _ => x
  exact cmp_sound (s := { s with heap := h₂, toks := tk₂ }) ho r₁' r₂ ok.u64 (He.mono (fun t _ Ht tk => wpAny_truthy_bool (Ht _ _ (k₁.trans k₂))) fun _ _ X => X)
theorem ts_between {x y z : Expr} {a b d : IE} {p : Pos} (hE : SEv prog w b0 r n) (ok : c.Ok n) (st : St (prog, w) b0 c E φ Ω s.heap) (ha : CE c.env.scope x a) (hb : CE c.env.scope y b) (hd : CE c.env.scope z d)
    (H : G (tsI r φ (.between a b d)) (TsPost c s QB) (XPost c s Ex)) {whole : Sem Value} : wpAny (model prog w) c.A (isTrue (.Compare x [.LtE, .LtE] [y, z] p) c.env whole) QB Ex s := by
  dsimp only [tsI] at H
  refine isTrue_chain (hE c E φ Ω s _ _ _ _ ok st ha (H.bind.mono (fun u _ Hu v h₁ tk₁ k₁ r₁ => ?_) fun _ _ X => X)) (by show behindInMarks _ z = false; exact hd.noMark _)
  refine test_link (hE c E φ Ω { s with heap := h₁, toks := tk₁ } _ _ _ _ ok (st.kp k₁) hb (Hu.bind.mono (fun e _ He vi h₂ tk₂ k₂ r₂ => ?_) fun _ _ X => X.step k₁))
  obtain ⟨i, t, rfl, He⟩ := He.rInt r₁
  obtain ⟨j, t', rfl, He⟩ := He.rInt r₂
  have k := k₁.trans k₂
  refine PySem.P.le_int (wpAny_truthy_bool ?_)
  rcases G.ite He with ⟨q, Hq⟩ | ⟨q, Hq⟩
  · rw [decide_eq_true q]
    simp only [if_true]
    refine test_last (hE c E φ Ω { s with heap := h₂, toks := tk₂ } _ _ _ _ ok (st.kp k) hd (Hq.bind.mono (fun e _ He vi h₃ tk₃ k₃ r₃ => ?_) fun _ _ X => X.step k))
    obtain ⟨z, t'', rfl, He⟩ := He.rInt r₃
    exact PySem.P.le_int (wpAny_truthy_bool (He _ _ (k.trans k₃)))
  · rw [decide_eq_false q]
    exact (show TsPost c s QB false from Hq) _ _ k
theorem ts_isNone {x : Expr} {a : IE} {k : Nat} {cp p : Pos} {yes : Bool} (hE : SEv prog w b0 r n) (ok : c.Ok n) (st : St (prog, w) b0 c E φ Ω s.heap) (ha : CE c.env.scope x a)
    (H : G (tsI r φ (.isNone a yes)) (TsPost c s QB) (XPost c s Ex)) {whole : Sem Value} : wpAny (model prog w) c.A (isTrue (.Compare x [if yes then .Is else .IsNot] [.Constant .none k cp] p) c.env whole) QB Ex s := by
  dsimp only [tsI] at H
  refine wpAny_isTrue_Compare1 (hE c E φ Ω s _ _ _ _ ok st ha (H.bind.mono (fun u _ Hu v h₁ tk₁ k₁ r₁ => ?_) fun _ _ X => X)) rfl
  refine wpAny_Constant_none ?_
  have e : G (Res.ok (if (v == .none) = true then yes else !yes)) (TsPost c s QB) (XPost c s Ex) := by
    obtain ⟨d, f⟩ := u
    cases r₁ <;> exact Hu
  have fin : ∀ b, (if (v == .none) = true then yes else !yes) = b → TsPost c s QB b := fun b q => q ▸ e
  cases yes with
  | true =>
    refine PySem.is_none (wpAny_truthy_bool (fin _ ?_ _ _ k₁))
    cases q : (v == Value.none) <;> rfl
  | false =>
    refine PySem.isNot_none (wpAny_truthy_bool (fin _ ?_ _ _ k₁))
    cases q : (v == Value.none) <;> rfl
theorem type_sound {d : V} {v : Value} {okk : Addr → Prop} {X : Msg → Prop} (r₁ : R (prog, w) okk s.heap v d) (H : G (typeV d) (fun T => Q (.type T) s) X) : wpAny (model prog w) A (call (.type "type") [v]) Q Ex s := by
  rcases H.typeV r₁ with ⟨rfl, H⟩ | ⟨b, rfl, H⟩ | ⟨i, t, rfl, H⟩ | ⟨x, t, rfl, H⟩
  · exact call_type_of rfl (by decide) H
  · exact call_type_of rfl (by decide) H
  · exact call_type_of (typeIs_int _ _ _) (by decide) H
  · exact call_type_of (typeIs_str _ _ _) (by decide) H
theorem ts_typeIs {x : Expr} {a : IE} {T : String} {np xp tp p : Pos} {yes : Bool} (S : Stat (prog, w) b0 mg mb consts) (hE : SEv prog w b0 r n) (ok : c.Ok n) (st : St (prog, w) b0 c E φ Ω s.heap) (hn : GName c.env.scope "type") (hT : GName c.env.scope T) (hT' : T = "int" ∨ T = "str" ∨ T = "bool") (ha : CE c.env.scope x a)
    (H : G (tsI r φ (.typeIs a T yes)) (TsPost c s QB) (XPost c s Ex)) {whole : Sem Value} : wpAny (model prog w) c.A (isTrue (.Compare (.Call (.Name (nm "type") np) [x] [] xp) [if yes then .Is else .IsNot] [.Name (nm T) tp] p) c.env whole) QB Ex s := by
  dsimp only [tsI] at H
  refine wpAny_isTrue_Compare1 (call1_t S hE ok st hn (by decide) boot_type (by decide) ha (H.bind.mono (fun u _ Hu v h₁ tk₁ k₁ r₁ => ?_) fun _ _ X => X)) rfl
  refine type_sound (s := { s with heap := h₁, toks := tk₁ }) r₁ (Hu.bind.mono (fun T' _ Hf => ?_) fun _ _ X => X)
  have Hf : TsPost c s QB ((T' == T) == yes) := Hf
  have eqT : (Value.type T' == Value.type T) = (T' == T) := by
    by_cases q : T' = T
    · subst q; simp
    · rw [beq_eq_false_iff_ne.mpr q]; exact beq_eq_false_iff_ne.mpr fun z => q (by injection z)
  have go : mg (nm T) = none → bootBuiltins (nm T) = some (.type T) → nm T ≠ "__name__" → wpAny (model prog w) c.A (eval (.Name (nm T) tp) c.env) (fun b s₂ => wpAny (model prog w) c.A (compareOp (if yes then .Is else .IsNot) (.type T') b) (fun z s₃ => wpAny (model prog w) c.A (truthy z) QB Ex s₃) Ex s₂) Ex { s with heap := h₁, toks := tk₁ } := by
    intro g1 g2 g3
    refine ld_boot S ok (st.kp k₁) hT g1 g2 g3 ?_
    cases yes with
    | true =>
      refine wpAny_is_plain rfl (wpAny_truthy_bool ?_)
      rw [eqT]
      have := Hf _ tk₁ k₁
      cases q : (T' == T) <;> rw [q] at this <;> exact this
    | false =>
      refine wpAny_isNot_plain rfl (wpAny_truthy_bool ?_)
      rw [eqT]
      have := Hf _ tk₁ k₁
      cases q : (T' == T) <;> rw [q] at this <;> exact this
  rcases hT' with rfl | rfl | rfl
  · exact go (S.free _ (by decide)) boot_int (by decide)
  · exact go (S.free _ (by decide)) boot_str (by decide)
  · exact go (S.free _ (by decide)) boot_bool (by decide)
theorem ts_and (hT : STs prog w b0 r n) (ok : c.Ok n) {p : Pos} {whole : Sem Value} {vs : List Expr} {ts : List TE} (hv : CTs c.env.scope vs ts) : ∀ {s : Shared}, St (prog, w) b0 c E φ Ω s.heap → G (allI r φ ts) (TsPost c s QB) (XPost c s Ex) →
    wpAny (model prog w) c.A (isTrue (.BoolOp .And vs p) c.env whole) QB Ex s := by
  induction hv with
  | nil => exact fun _ H => (show False from H).elim
  | cons h hs ih =>
    intro s st H
    rename_i t _
    cases hs with
    | nil =>
      refine isTrue_and (hT c E φ Ω s _ _ _ _ ok st h (G.mono (res := r.ts φ t) H (fun b _ Hb h₁ tk₁ k₁ => ?_) fun _ _ X => X))
      cases b with
      | true => exact isTrue_and_nil (Hb _ _ k₁)
      | false => exact Hb _ _ k₁
    | cons h' hs =>
      refine isTrue_and (hT c E φ Ω s _ _ _ _ ok st h (G.mono (G.bind (res := r.ts φ t) H) (fun b _ Hb h₁ tk₁ k₁ => ?_) fun _ _ X => X))
      cases b with
      | true => exact ih (s := { s with heap := h₁, toks := tk₁ }) (st.kp k₁) (G.mono (res := allI r φ (_ :: _)) Hb (fun _ _ Hu => Hu.step k₁) fun _ _ X => X.step k₁)
      | false => exact (show TsPost c s QB false from Hb) _ _ k₁
theorem ts_or (hT : STs prog w b0 r n) (ok : c.Ok n) {p : Pos} {whole : Sem Value} {vs : List Expr} {ts : List TE} (hv : CTs c.env.scope vs ts) : ∀ {s : Shared}, St (prog, w) b0 c E φ Ω s.heap → G (anyI r φ ts) (TsPost c s QB) (XPost c s Ex) →
    wpAny (model prog w) c.A (isTrue (.BoolOp .Or vs p) c.env whole) QB Ex s := by
  induction hv with
  | nil => exact fun _ H => (show False from H).elim
  | cons h hs ih =>
    intro s st H
    rename_i t _
    cases hs with
    | nil =>
      refine isTrue_or (hT c E φ Ω s _ _ _ _ ok st h (G.mono (res := r.ts φ t) H (fun b _ Hb h₁ tk₁ k₁ => ?_) fun _ _ X => X))
      cases b with
      | false => exact isTrue_or_nil (Hb _ _ k₁)
      | true => exact Hb _ _ k₁
    | cons h' hs =>
      refine isTrue_or (hT c E φ Ω s _ _ _ _ ok st h (G.mono (G.bind (res := r.ts φ t) H) (fun b _ Hb h₁ tk₁ k₁ => ?_) fun _ _ X => X))
      cases b with
      | false => exact ih (s := { s with heap := h₁, toks := tk₁ }) (st.kp k₁) (G.mono (res := anyI r φ (_ :: _)) Hb (fun _ _ Hu => Hu.step k₁) fun _ _ X => X.step k₁)
      | true => exact (show TsPost c s QB true from Hb) _ _ k₁
/-- the tests -/
theorem ts_sound (S : Stat (prog, w) b0 mg mb consts) (hE : SEv prog w b0 r n) (hT : STs prog w b0 r n) {e : Expr} {t : TE} (ok : c.Ok n) (st : St (prog, w) b0 c E φ Ω s.heap) (ht : CT c.env.scope e t)
    (H : G (tsI r φ t) (TsPost c s QB) (XPost c s Ex)) : wpAny (model prog w) c.A (isTrue e c.env (eval e c.env)) QB Ex s := by
  obtain ⟨n, h, o⟩ := ht.one
  have key : ∀ e', e' = e → wpAny (model prog w) c.A (isTrue e' c.env (eval e' c.env)) QB Ex s → wpAny (model prog w) c.A (isTrue e c.env (eval e c.env)) QB Ex s := fun _ q z => q ▸ z
  cases t with
  | tt i =>
    obtain ⟨o1, o2⟩ := and_ok o
    exact ts_tt hE ok st ⟨n, h, o2⟩ (testB_ok o1) H
  | cmp op a b =>
    obtain ⟨o1, o2⟩ := and_ok o
    exact key _ h (ts_cmp hE ok st (cmOf_ok op) (mkE (congrArg (kid 0) h) o1) (mkE (congrArg (kid 1) h) o2) H)
  | between a b d =>
    obtain ⟨o1, o2⟩ := and_ok o
    obtain ⟨o2, o3⟩ := and_ok o2
    exact key _ h (ts_between hE ok st (mkE (congrArg (kid 0) h) o1) (mkE (congrArg (kid 1) h) o2) (mkE (congrArg (kid 2) h) o3) H)
  | isNone a yes => exact key _ h (ts_isNone hE ok st (mkE (congrArg (kid 0) h) o) H)
  | typeIs a T yes =>
    obtain ⟨o1, o2⟩ := and_ok o
    obtain ⟨o2, o3⟩ := and_ok o2
    obtain ⟨o3, o4⟩ := and_ok o3
    exact key _ h (ts_typeIs S hE ok st (gnB_ok o1) (gnB_ok o2) (of_decide_eq_true o3) (mkE (congrArg (fun z => kid 1 (kid 0 z)) h) o4) H)
  | not t =>
    dsimp only [tsI] at H
    exact key _ h (isTrue_not (hT c E φ Ω s _ _ _ _ ok st (mkT (congrArg (kid 0) h) o) (H.bind.mono (fun b _ Hb h₁ tk₁ k₁ => (show TsPost c s QB (!b) from Hb) _ _ k₁) fun _ _ X => X)))
  | and ts => exact key _ h (ts_and hT ok (mkTs (congrArg (fun z => (look z).1) h) o) st H)
  | or ts => exact key _ h (ts_or hT ok (mkTs (congrArg (fun z => (look z).1) h) o) st H)
end
end Mine
end

section
set_option Elab.async false
namespace Mine
open PySem PySem.W PySem.Calls PyProof.Rows

section
variable {prog : Program} {w : World} {b0 : Heap} {mg mb : PySem.Str → Option Value} {consts : String → Option V} {r : Rec} {n : Nat} {c : Cx} {E : List Addr} {φ : Frm} {Ω : List (String × Addr)} {s : Shared} {Q : Value → Shared → Prop} {QB : Bool → Shared → Prop} {Ex : Value → Shared → Prop} {A : Around}

theorem St.fresh {P : Program × World} {h : Heap} (st : St P b0 c E φ Ω h) {a : Addr} (ha : h.objs.size ≤ a) : a ∉ E ∧ a ∉ c.Y Ω := by
  refine ⟨fun z => ?_, fun z => ?_⟩
  · obtain ⟨o, e⟩ := st.alive a (.inl z)
    exact absurd (Heap.lt_size e) (Nat.not_lt.mpr ha)
  · obtain ⟨o, e⟩ := st.alive a (.inr z)
    exact absurd (Heap.lt_size e) (Nat.not_lt.mpr ha)
theorem keep_up {ok : Addr → Prop} {h h' : Heap} (k : ∀ b o, h.get? b = some o → h'.get? b = some o) : UpAt ok h h' := fun b o _ e _ => k b o e

theorem ev_listOf {x : Expr} {a : IE} {np p : Pos} (S : Stat (prog, w) b0 mg mb consts) (hE : SEv prog w b0 r n) (ok : c.Ok n) (st : St (prog, w) b0 c E φ Ω s.heap) (hn : GName c.env.scope "list") (ha : CE c.env.scope x a)
    (H : G (evI consts r φ (.listOf a)) (EvPost (prog, w) c E Ω s Q) (XPost c s Ex)) : wpAny (model prog w) c.A (eval (.Call (.Name (nm "list") np) [x] [] p) c.env) Q Ex s := by
  dsimp only [evI] at H
  refine call1_t S hE ok st hn (by decide) boot_list (by decide) ha (H.bind.mono (fun u _ Hu v h₁ tk₁ k₁ r₁ => ?_) fun _ _ X => X)
  obtain ⟨ad, vs, ds, rfl, h0, la, ra, Hu⟩ := Hu.rList r₁
  obtain ⟨q, Hq⟩ := Hu.need
  obtain ⟨o, k, e, hc, hd, hsz⟩ := la
  refine call_list_seq (hsz := by rw [List.size_toArray]; exact hsz) ad (.inl rfl) e hc hd fun h' c' hk hD => ?_
  have hS := (st.kp k₁).fresh (Nat.le_refl _)
  exact Hq _ _ _ (k₁.trans (.of_keeps hk)) (.list (fun _ => hS) hD rfl rfl hsz ((ra.mono (keep_up hk) fun _ _ x _ _ => x q.1)))

/-- the slot of a dict of our own -/
theorem tab_at {x : String} {kvs : List (PySem.Str × V)} {p : Pos} (ok : c.Ok n) (st : St (prog, w) b0 c E φ Ω s.heap) (hn : LName c.env.scope x) (hl : φ.lookup x = some (.tab kvs))
    (H : ∀ a, Ω.lookup x = some a → TabAt' (prog, w) (fun a => a ∉ E ∧ a ∉ c.Y Ω) s.heap a kvs → Q (.ref a) s) : wpAny (model prog w) c.A (eval (.Name (nm x) p) c.env) Q Ex s := by
  obtain ⟨m, cm, h1, h2, h3⟩ := st.loc
  obtain ⟨a, hΩ, hv, T⟩ := h3 x _ hl hn
  exact ld_at ok hn h1 h2 hv (H a hΩ T)
theorem view_call {x nme id T : String} {kvs : List (PySem.Str × V)} {xp ap p1 : Pos} (ok : c.Ok n) (st : St (prog, w) b0 c E φ Ω s.heap) (hn : LName c.env.scope x) (hl : φ.lookup x = some (.tab kvs)) (hline : (ap.endLine == p1.line) = true)
    (slot : PySem.Slot "dict" (nm nme) id) (ty : typeOf (.builtin id) = pure (.type "method_descriptor"))
    (call : ∀ (d : Addr) (ps : List (PySem.Str × Value)) (Q : Value → Shared → Prop), (d == sysModules) = false → s.heap.DictOf (strKind prog w) d ps → Q (.ref s.heap.objs.size) { s with heap := s.heap.push { cls := .type T, data := .fields #[.ref d] } } → wpAny (model prog w) c.A (call (.builtin id) [.ref d]) Q Ex s)
    (H : ∀ a ps ds, s.heap.DictOf (strKind prog w) a ps → RA (prog, w) (fun a => a ∉ E ∧ a ∉ c.Y Ω) s.heap (ps.map (·.2)) ds → Sz ps → kvs = (ps.map (·.1)).zip ds → Q (.ref s.heap.objs.size) { s with heap := s.heap.push { cls := .type T, data := .fields #[.ref a] } }) :
    wpAny (model prog w) c.A (eval (.Call (.Attribute (.Name (nm x) xp) (nm nme) ap) [] [] p1) c.env) Q Ex s := by
  refine wpAny_Call_method (T := "dict") (id := id) rfl rfl hline F.plainAttrs_dict slot ty ?_
  refine tab_at ok st hn hl fun a _ T => ?_
  obtain ⟨ps, ds, q1, q2, q3, q4, q5⟩ := T
  exact ⟨q1.typeIs, q1.mapOf.noDict, callWith_method0 (call a ps _ q2 q1 (H a ps ds q1 q3 q4 q5))⟩

theorem key_shape {k : PySem.Str} {v : Value} (h : (strKind prog w).is k v = true) : ∃ t, v = .str k t := Value.isStrOf_shape h
theorem ev_items {x : String} {np xp ap p1 p : Pos} (S : Stat (prog, w) b0 mg mb consts) (ok : c.Ok n) (st : St (prog, w) b0 c E φ Ω s.heap) (hg : GName c.env.scope "list") (hn : LName c.env.scope x) (hline : (ap.endLine == p1.line) = true)
    (H : G (evI consts r φ (.items x)) (EvPost (prog, w) c E Ω s Q) (XPost c s Ex)) :
    wpAny (model prog w) c.A (eval (.Call (.Name (nm "list") np) [.Call (.Attribute (.Name (nm x) xp) (nm "items") ap) [] [] p1] [] p) c.env) Q Ex s := by
  dsimp only [evI] at H
  obtain ⟨kvs, hl, H⟩ := G.onTab H
  obtain ⟨q, Hq⟩ := H.need
  refine Call_ (ld_boot S ok st hg (S.free _ (by decide)) boot_list (by decide) (callWith_type1 ?_ rfl rfl))
  refine args_cons ?_ rfl
  refine view_call (id := "dict.items") (T := "dict_items") ok st hn hl hline F.slot_dict_items F.type_dict_items (fun d ps Q lo hD hQ => call_meetsIn PySem.F.slot_dict_items hD.typeIs PySem.F.entry_dict_items (PySem.F.args_dict_items_1 _) (meets_dict_items _ d lo) ⟨⟨ps, hD⟩, hQ⟩) fun a ps ds hD ra hz hk => args_nil ?_
  obtain ⟨ep, hat⟩ := hD.dictAt
  have hl0 : a < s.heap.objs.size := hat.lt_size
  refine kdx_call (knd := strKind prog w) (kvs := ps) (ep := ep) ok.handled (r := s.heap.objs.size) (d := a) ⟨_, Heap.get?_push_size _ rfl, rfl, rfl⟩ (hat.push _) hz.1 fun h' tk acc c' as hk' hS hlen hG hacc => ?_
  have hkk : ∀ b o, s.heap.get? b = some o → h'.get? b = some o := fun b o e => hk' b o (Heap.get?_push_of_some _ e)
  have ea : acc = (as.map Value.ref).toArray := by rw [← hacc, Array.toArray_toList]
  rw [ea] at hS
  have hgt : ∀ b, (s.heap.push { cls := .type "dict_items", data := .fields #[.ref a] }).objs.size ≤ b → b ∉ E ∧ b ∉ c.Y Ω := fun b hb => st.fresh (Nat.le_trans (Nat.le_succ _) (by simpa [Heap.push] using hb))
  have rows : ∀ (as : List Addr) (ps : List (PySem.Str × Value)) (ds : List V), as.length = ps.length → RA (prog, w) (fun a => a ∉ E ∧ a ∉ c.Y Ω) s.heap (ps.map (·.2)) ds → (∀ p ∈ ps, p.1.length ≤ sizeLine) →
      (∀ (j : Nat) (b : Addr), as[j]? = some b → b ∉ E ∧ b ∉ c.Y Ω ∧ ∃ key k x, ps[j]? = some (k, x) ∧ (strKind prog w).is k key = true ∧ h'.get? b = some { cls := .type "tuple", data := .seq #[key, x] }) →
      RA (prog, w) (fun a => a ∉ E ∧ a ∉ c.Y Ω) h' (as.map Value.ref) (((ps.map (·.1)).zip ds).map fun p => V.tuple [.str p.1, p.2]) := by
    intro as
    induction as with
    | nil => intro ps ds hl ra _ _; cases ps with
      | nil => cases ra; exact .nil
      | cons => cases hl
    | cons b as ih =>
      intro ps ds hl ra hz hrow
      cases ps with
      | nil => cases hl
      | cons p ps =>
        cases ra with
        | cons r0 ra =>
          obtain ⟨o1, o2, key, k, xv, e1, e2, e3⟩ := hrow 0 b rfl
          cases e1
          obtain ⟨t, rfl⟩ := key_shape e2
          refine .cons ?_ (ih ps _ (by simpa using hl) ra (fun p hp => hz p (.tail _ hp)) fun j b hb => hrow (j + 1) b hb)
          exact .tuple (vs := [.str k t, xv]) ⟨o1, o2⟩ e3 rfl rfl (by rw [sizeLine_eq]; exact Nat.le_of_ble_eq_true rfl) (.cons (.str k t (hz _ (.head _))) (.cons (r0.mono (keep_up hkk) fun _ _ x _ => x) .nil))
  have rr := rows as ps ds hlen ra hz.2 fun j b hb => by
    have hb' : b ∈ as := List.mem_of_getElem? hb
    obtain ⟨key, k, xv, e1, e2, e3⟩ := hG.pairs j b hb
    have := hgt b (Nat.le_of_lt (hG.above b hb'))
    exact ⟨this.1, this.2, key, k, xv, e1, e2, e3⟩
  rw [← hk] at rr
  have hs2 := hgt _ (Nat.le_refl _)
  refine (show EvPost (prog, w) c E Ω s Q _ from Hq) _ _ _ (.of_keeps hkk) (.list (fun _ => hs2) hS rfl rfl ?_ (rr.weak fun _ x _ => x))
  rw [List.length_map, hlen]; exact hz.1
theorem ev_firstKey {x : String} {k : Nat} {np xp ap p1 p cp sp : Pos} (S : Stat (prog, w) b0 mg mb consts) (ok : c.Ok n) (st : St (prog, w) b0 c E φ Ω s.heap) (hg : GName c.env.scope "list") (hn : LName c.env.scope x) (hline : (ap.endLine == p1.line) = true)
    (H : G (evI consts r φ (.firstKey x)) (EvPost (prog, w) c E Ω s Q) (XPost c s Ex)) :
    wpAny (model prog w) c.A (eval (.Subscript (.Call (.Name (nm "list") np) [.Call (.Attribute (.Name (nm x) xp) (nm "keys") ap) [] [] p1] [] p) (.Constant (.int 0) k cp) sp) c.env) Q Ex s := by
  dsimp only [evI] at H
  obtain ⟨kvs, hl, H⟩ := G.onTab H
  obtain ⟨p0, hp0, H⟩ := G.onO H
  obtain ⟨q, Hq⟩ := H.need
  refine Subscript_ (Call_ (ld_boot S ok st hg (S.free _ (by decide)) boot_list (by decide) (callWith_type1 ?_ rfl rfl)))
  refine args_cons ?_ rfl
  refine view_call (id := "dict.keys") (T := "dict_keys") ok st hn hl hline F.slot_dict_keys F.type_dict_keys (fun d ps Q lo hD hQ => call_meetsIn PySem.F.slot_dict_keys hD.typeIs PySem.F.entry_dict_keys (PySem.F.args_dict_keys_1 _) (kdl_meets_keys _ d lo) ⟨⟨ps, hD⟩, hQ⟩) fun a ps ds hD ra hz hk => args_nil ?_
  obtain ⟨ep, hat⟩ := hD.dictAt
  refine kdl_call (kdl_keys (knd := strKind prog w) (kvs := ps) (ep := ep) (r := s.heap.objs.size) (d := a)) ok.handled ⟨⟨_, Heap.get?_push_size _ rfl, rfl, rfl⟩, hat.push _⟩ hz.1 fun h' tk acc c' hk' hS hacc => ?_
  have hkk : ∀ b o, s.heap.get? b = some o → h'.get? b = some o := fun b o e => hk' b o (Heap.get?_push_of_some _ e)
  subst hk
  cases ps with
  | nil => cases hp0
  | cons q0 ps =>
    cases ra with
    | cons r0 ra =>
      cases hp0
      obtain ⟨hsz, hit⟩ := hacc
      have hlt : 0 < acc.size := by rw [hsz]; exact Nat.succ_pos _
      obtain ⟨k', x', e1, e2⟩ := hit 0 acc[0] (Array.getElem?_eq_getElem hlt)
      cases e1
      obtain ⟨t, e3⟩ := key_shape e2
      refine wpAny_Constant_int ?_
      have hL : (h').IsList _ acc := ⟨_, hS, rfl, _, rfl⟩
      refine tail_any hL.typeIs slot_list_getitem.lookup (wpAny_getItem_list hL (by decide) (by decide) (show acc[0]? = some (.str k' t) by rw [Array.getElem?_eq_getElem hlt, e3]) ?_) rfl
      exact (show EvPost (prog, w) c E Ω s Q (.str k', true) from Hq) _ _ _ (.of_keeps hkk) (.str _ _ (hz.2 _ (.head _)))
end
end Mine
end

section
set_option Elab.async false
namespace Mine
open PySem PySem.W PySem.Calls PyProof.Rows

theorem notHeld {o : Obj} {T : String} (h : o.cls = .type T) (h1 : T ≠ "list") (h2 : T ≠ "tuple") (h3 : T ≠ "dict") : ¬ Held o := fun z => by
  rcases z with z | z | z <;> (rw [h] at z; injection z with z; first | exact h1 z | exact h2 z | exact h3 z)
/-- something to walk over lies at `I` -/
inductive Src (prog : Program) (w : World) (A : Around) (ok : Addr → Prop) (fs Y : List Addr) (ds : List V) (h : Heap) (I : Addr) : Prop
  | mk (fp : List Addr) (Pv : Nat → Value → Prop) (Sv : Nat → Heap → Prop) : Walks prog w A I fp [I] ds.length Pv Sv → Sv 0 h → (∀ b ∈ fp, b ∉ fs ∧ b ∉ Y ∧ ∃ o, h.get? b = some o) → (∀ i h, Sv i h → ∃ o, h.get? I = some o ∧ ¬ Held o) → (∀ i v, Pv i v → ∃ d, ds[i]? = some d ∧ R (prog, w) ok h v d) → Src prog w A ok fs Y ds h I
section
variable {prog : Program} {w : World} {b0 : Heap} {mg mb : PySem.Str → Option Value} {consts : String → Option V} {r : Rec} {n : Nat} {c : Cx} {E : List Addr} {φ : Frm} {Ω : List (String × Addr)} {s : Shared} {Q : Value → Shared → Prop} {QB : Bool → Shared → Prop} {Ex : Value → Shared → Prop} {A : Around}

theorem St.off_fs {P : Program × World} {h : Heap} (st : St P b0 c E φ Ω h) {a : Addr} {o : Obj} {T : String} (e : h.get? a = some o) (hc : o.cls = .type T) (hT : T ≠ "frame") : a ∉ c.fs := fun z => by
  obtain ⟨o', e', hc'⟩ := st.fc a z
  rw [e] at e'; cases e'
  rw [hc] at hc'; injection hc' with q; exact hT q
theorem St.new_fs {P : Program × World} {h : Heap} (st : St P b0 c E φ Ω h) {a : Addr} (ha : h.objs.size ≤ a) : a ∉ c.fs := fun z => by
  obtain ⟨o', e', hc'⟩ := st.fc a z
  exact absurd (Heap.lt_size e') (Nat.not_lt.mpr ha)

noncomputable def ItPost (prog : Program) (w : World) (c : Cx) (E : List Addr) (Ω : List (String × Addr)) (s : Shared) (Q : Value → Shared → Prop) (u : V × Bool) : Prop := ∀ v h' tk, Kp c.fs [] s.heap h' → R (prog, w) (fun a => (u.2 = true → a ∉ E) ∧ a ∉ c.Y Ω) h' v u.1 → Q v { s with heap := h', toks := tk }
theorem evIt_sound {e : Expr} {i : IE} (hE : SEv prog w b0 r n) (ok : c.Ok n) (st : St (prog, w) b0 c E φ Ω s.heap) (he : CE c.env.scope e i) (H : G (evIt r φ i) (ItPost prog w c E Ω s Q) (XPost c s Ex)) :
    wpAny (model prog w) c.A (eval e c.env) Q Ex s := by
  have gen : G ((r.ev φ i).bind fun u => if u.2 then .ok u else .bad) (ItPost prog w c E Ω s Q) (XPost c s Ex) → wpAny (model prog w) c.A (eval e c.env) Q Ex s := by
    intro H
    refine hE c E φ Ω s _ _ _ _ ok st he (H.bind.mono (fun u _ Hu v h₁ tk₁ k₁ r₁ => ?_) fun _ _ X => X)
    rcases G.ite Hu with ⟨q, Hq⟩ | ⟨_, Hq⟩
    · exact (show ItPost prog w c E Ω s Q u from Hq) v h₁ tk₁ k₁ (r₁.weak fun a x => ⟨fun _ => (x q).1, (x q).2⟩)
    · exact Hq.elim
  by_cases hv : ∃ x, i = .var x
  · obtain ⟨x, rfl⟩ := hv
    obtain ⟨n', h, o⟩ := he.one
    rw [← h]
    have hn := lnB_ok o
    · obtain ⟨m, cm, h1, h2, h3⟩ := st.loc
      dsimp only [evIt] at H
      cases hl : φ.lookup x with
      | none => rw [hl] at H; exact H.elim
      | some sl =>
        rw [hl] at H
        cases sl with
        | val d f =>
          obtain ⟨v, e, rv⟩ := h3 x _ hl hn
          exact ld_at ok hn h1 h2 e ((show ItPost prog w c E Ω s Q (d, f) from H) v s.heap s.toks .refl rv)
        | acc => exact (show False from H).elim
        | tab => exact (show False from H).elim
        | gone => exact (show False from H).elim
  · refine gen ?_
    have : evIt r φ i = (r.ev φ i).bind fun u => if u.2 then .ok u else .bad := by
      unfold evIt
      split
      · exact absurd ⟨_, rfl⟩ hv
      · rfl
    rw [this] at H; exact H

/-- where a walk starts -/
noncomputable def SrcPost (prog : Program) (w : World) (c : Cx) (E : List Addr) (Ω : List (String × Addr)) (s : Shared) (Q : Value → Shared → Prop) (us : List (V × Bool)) : Prop :=
  ∀ I h' tk ds f, us = ds.map (fun d => (d, f)) → ds.length ≤ sizeLine → Kp c.fs [] s.heap h' → s.heap.get? I = none → Src prog w c.A (fun a => (f = true → a ∉ E) ∧ a ∉ c.Y Ω) c.fs (c.Y Ω) ds h' I → Q (.ref I) { s with heap := h', toks := tk }
theorem gone_of_le {h : Heap} {a : Addr} (ha : h.objs.size ≤ a) : h.get? a = none := by
  cases e : h.get? a with
  | none => rfl
  | some o => exact absurd (Heap.lt_size e) (Nat.not_lt.mpr ha)
theorem none_back {fs : List Addr} {h h' : Heap} {a : Addr} (k : Kp fs [] h h') (e : h'.get? a = none) : h.get? a = none := by
  cases q : h.get? a with
  | none => rfl
  | some o => obtain ⟨sl, q'⟩ := k.there q (by simp); rw [e] at q'; cases q'
theorem src_list {ok : Addr → Prop} {fs Y : List Addr} {h : Heap} {a : Addr} {vs : List Value} {ds : List V} (hh : A.handled = none) (la : ListAt h a vs) (ra : RA (prog, w) ok h vs ds) (hf : a ∉ fs ∧ a ∉ Y) (hI : h.objs.size ∉ fs ∧ h.objs.size ∉ Y) :
    Src prog w A ok fs Y ds (h.push { cls := .type "list_iterator", data := .fields #[.ref a, .int 0 0] }) h.objs.size := by
  obtain ⟨o, k, e, hc, hd, hs⟩ := la
  have hlt : a < h.objs.size := Heap.lt_size e
  have W := Walks.list (prog := prog) (w := w) hh h.objs.size a (Nat.ne_of_lt hlt) vs.toArray
  rw [show vs.toArray.size = ds.length by rw [List.size_toArray, ra.length]] at W
  refine ⟨_, _, _, W, ⟨⟨_, Heap.get?_push_size _ rfl, rfl, rfl⟩, ⟨o, Heap.get?_push_of_some _ e, hc, k, hd⟩⟩, fun b hb => ?_, fun i h x => let ⟨⟨o, ho, hc, _⟩, _⟩ := x; ⟨o, ho, notHeld hc (by decide) (by decide) (by decide)⟩, fun i v hv => ?_⟩
  · simp at hb
    rcases hb with rfl | rfl
    · exact ⟨hI.1, hI.2, _, Heap.get?_push_size _ rfl⟩
    · exact ⟨hf.1, hf.2, _, Heap.get?_push_of_some _ e⟩
  · obtain ⟨d, hd, rd⟩ := ra.getV (show vs[i]? = some v by simpa using hv)
    exact ⟨d, hd, rd.mono (keep_up fun b o e => Heap.get?_push_of_some _ e) fun _ _ x _ => x⟩
theorem src_rev {ok : Addr → Prop} {fs Y : List Addr} {h : Heap} {a : Addr} {vs : List Value} {ds : List V} (hh : A.handled = none) (la : ListAt h a vs) (ra : RA (prog, w) ok h vs ds) (hf : a ∉ fs ∧ a ∉ Y) (hI : h.objs.size ∉ fs ∧ h.objs.size ∉ Y) :
    Src prog w A ok fs Y ds.reverse (h.push (revObj a ((vs.toArray.size : Int) - 1))) h.objs.size := by
  obtain ⟨o, k, e, hc, hd, hs⟩ := la
  have hlt : a < h.objs.size := Heap.lt_size e
  have W := Walks.listRev (prog := prog) (w := w) hh h.objs.size a (Nat.ne_of_lt hlt) vs.toArray
  have hlen : vs.toArray.size = ds.reverse.length := by rw [List.size_toArray, List.length_reverse, ra.length]
  rw [hlen] at W
  refine ⟨_, _, _, W.bound, ⟨Nat.zero_le _, ⟨_, Heap.get?_push_size _ rfl, rfl, by rw [hlen]; simp [revObj]⟩, ⟨o, Heap.get?_push_of_some _ e, hc, k, hd⟩⟩, fun b hb => ?_, fun i h x => let ⟨_, ⟨o, ho, hc, _⟩, _⟩ := x; ⟨o, ho, notHeld hc (by decide) (by decide) (by decide)⟩, fun i v hv => ?_⟩
  · simp at hb
    rcases hb with rfl | rfl
    · exact ⟨hI.1, hI.2, _, Heap.get?_push_size _ rfl⟩
    · exact ⟨hf.1, hf.2, _, Heap.get?_push_of_some _ e⟩
  · obtain ⟨hi, hv⟩ := hv
    have hi' : i < ds.length := by simpa using hi
    have hv' : vs[ds.length - 1 - i]? = some v := by simpa using hv
    obtain ⟨d, hd, rd⟩ := ra.getV hv'
    exact ⟨d, by rw [List.getElem?_reverse hi']; exact hd, rd.mono (keep_up fun b o e => Heap.get?_push_of_some _ e) fun _ _ x _ => x⟩
/-- what a `for` walks over -/
theorem iter_sound {e : Expr} {it : It} (S : Stat (prog, w) b0 mg mb consts) (hE : SEv prog w b0 r n) (ok : c.Ok n) (st : St (prog, w) b0 c E φ Ω s.heap) (hi : CI c.env.scope e it) (hs : it.simple = true)
    (H : G (iterI r φ it) (SrcPost prog w c E Ω s Q) (XPost c s Ex)) : wpAny (model prog w) c.A (eval e c.env) (fun v s₁ => wpAny (model prog w) c.A (pyIter v) Q Ex s₁) Ex s := by
  obtain ⟨n', h, o⟩ := hi.one
  cases it with
  | enum i => cases hs
  | plain i =>
    have he : CE c.env.scope e i := ⟨n', h, o⟩
    dsimp only [iterI] at H
    refine evIt_sound hE ok st he (H.bind.mono (fun u _ Hu v h₁ tk₁ k₁ r₁ => ?_) fun _ _ X => X)
    have st₁ := st.kp k₁
    have hN := st₁.fresh (Nat.le_refl _)
    have hNf := st₁.new_fs (Nat.le_refl _)
    obtain ⟨d, f⟩ := u
    cases d <;> first | exact (show False from Hu).elim | skip
    · rename_i ds _
      have Hu' : SrcPost prog w c E Ω s Q (ds.map fun d => (d, f)) := Hu
      obtain ⟨a, vs, rfl, h0, hT, hsz, ra⟩ := r₁.inv_tuple
      obtain ⟨o, e, hc, k, hd⟩ := hT
      refine wpAny_pyIter_tuple ⟨o, e, hc, k, hd⟩ (Hu' _ _ _ ds f rfl (by rw [← ra.length]; exact hsz) (k₁.trans (push_kp _)) (none_back k₁ (gone_of_le (Nat.le_refl _))) ?_)
      have hlt : a < h₁.objs.size := Heap.lt_size e
      have W := Walks.tuple (prog := prog) (w := w) ok.handled h₁.objs.size a (Nat.ne_of_lt hlt) vs.toArray
      rw [show vs.toArray.size = ds.length by rw [List.size_toArray, ra.length]] at W
      refine ⟨_, _, _, W, ⟨⟨_, Heap.get?_push_size _ rfl, rfl, rfl⟩, ⟨o, Heap.get?_push_of_some _ e, hc, k, hd⟩⟩, fun b hb => ?_, fun i h x => let ⟨⟨o, ho, hc, _⟩, _⟩ := x; ⟨o, ho, notHeld hc (by decide) (by decide) (by decide)⟩, fun i v hv => ?_⟩
      · simp at hb
        rcases hb with rfl | rfl
        · exact ⟨hNf, hN.2, _, Heap.get?_push_size _ rfl⟩
        · exact ⟨st₁.off_fs e hc (by decide), h0.2, _, Heap.get?_push_of_some _ e⟩
      · obtain ⟨d, hd, rd⟩ := ra.getV (show vs[i]? = some v by simpa using hv)
        exact ⟨d, hd, rd.mono (keep_up fun b o e => Heap.get?_push_of_some _ e) fun _ _ x _ => x⟩
    · rename_i ds _
      have Hu' : SrcPost prog w c E Ω s Q (ds.map fun d => (d, f)) := Hu
      obtain ⟨a, vs, rfl, h0, la, ra⟩ := r₁.inv_list
      obtain ⟨o, k, e, hc, hd, hsz⟩ := id la
      exact wpAny_pyIter_list la.isList (Hu' _ _ _ ds f rfl (by rw [← ra.length]; exact hsz) (k₁.trans (push_kp _)) (none_back k₁ (gone_of_le (Nat.le_refl _))) (src_list ok.handled la ra ⟨st₁.off_fs e hc (by decide), h0.2⟩ ⟨hNf, hN.2⟩))
  | rev i =>
    obtain ⟨o1, o2⟩ := and_ok o
    have he := mkE (congrArg (kid 1) h) o2
    have hg := gnB_ok o1
    rw [← h]
    dsimp only [iterI] at H
    refine Call_ (ld_boot S ok st hg (S.free _ (by decide)) boot_rev (by decide) (callWith_type1 ?_ (he.star _ _) rfl))
    refine args_cons ?_ (he.star _ _)
    refine evIt_sound hE ok st he (H.bind.mono (fun u _ Hu v h₁ tk₁ k₁ r₁ => args_nil ?_) fun _ _ X => X)
    have st₁ := st.kp k₁
    have hN := st₁.fresh (Nat.le_refl _)
    have hNf := st₁.new_fs (Nat.le_refl _)
    obtain ⟨a, vs, ds, rfl, h0, la, ra, Hu⟩ := Hu.rList r₁
    have Hu' : SrcPost prog w c E Ω s Q (ds.reverse.map fun d => (d, u.2)) := Hu
    obtain ⟨o, k, e, hc, hd, hsz⟩ := id la
    have src := src_rev (A := c.A) ok.handled la ra ⟨st₁.off_fs e hc (by decide), h0.2⟩ ⟨hNf, hN.2⟩
    exact call_reversed_list la.isList (wpAny_pyIter_revIter ⟨_, Heap.get?_push_size _ rfl, rfl, rfl⟩ (Hu' _ _ _ ds.reverse u.2 rfl (by rw [List.length_reverse, ← ra.length]; exact hsz) (k₁.trans (push_kp _)) (none_back k₁ (gone_of_le (Nat.le_refl _))) src))
end
end Mine
end

section
set_option Elab.async false
namespace Mine
open PySem PySem.W PySem.Calls PyProof.Rows

/-! ## the cells that a comprehension takes along -/
noncomputable def closL (cells : List (PySem.Str × Addr)) : List (PySem.Str × NameKind) → List (PySem.Str × Addr) → List (PySem.Str × Addr)
  | [], acc => acc
  | (n, k) :: r, acc => if k == .free then closL cells r ((n, (cells.lookup n).getD 0) :: acc) else closL cells r acc
theorem clos_loop {env : Env} (names : List (PySem.Str × NameKind)) : ∀ (acc : List (PySem.Str × Addr)), (∀ y ∈ names, y.2 = .free → ∃ k, env.cells.lookup y.1 = some k) →
    (forIn names acc fun x r => match x with | (name, kind) => if (kind == NameKind.free) = true then do let a ← cellOf env name; pure (ForInStep.yield ((name, a) :: r)) else pure (ForInStep.yield r) : Sem (List (PySem.Str × Addr))) = pure (closL env.cells names acc) := by
  induction names with
  | nil => exact fun _ _ => rfl
  | cons p r ih =>
    obtain ⟨n, k⟩ := p
    intro acc h
    rw [List.forIn_cons]
    cases hk : k == NameKind.free with
    | true =>
      obtain ⟨a, ha⟩ := h (n, k) (.head _) (by simpa using hk)
      have e : cellOf env n = pure a := by unfold cellOf; rw [ha]
      simp only [hk, if_true, e, pure_bind, closL, ha, Option.getD_some]
      exact ih _ fun y hy => h y (.tail _ hy)
    | false =>
      simp only [hk, Bool.false_eq_true, if_false, pure_bind, closL]
      exact ih _ fun y hy => h y (.tail _ hy)
theorem clos_eq {scope : Scope} {env : Env} (h : ∀ y ∈ scope.names, y.2 = .free → ∃ k, env.cells.lookup y.1 = some k) : closureFor scope env = pure (closL env.cells scope.names []) := by
  unfold closureFor
  have := clos_loop (env := env) scope.names [] h
  simp only at this ⊢
  rw [this]; rfl
theorem clos_mem {cells : List (PySem.Str × Addr)} {n : PySem.Str} {a : Addr} (names : List (PySem.Str × NameKind)) : ∀ (acc : List (PySem.Str × Addr)), (n, a) ∈ closL cells names acc → (n, a) ∈ acc ∨ ((n, NameKind.free) ∈ names ∧ a = (cells.lookup n).getD 0) := by
  induction names with
  | nil => exact fun _ h => .inl h
  | cons p r ih =>
    obtain ⟨n', k⟩ := p
    intro acc h
    unfold closL at h
    split at h
    · rename_i hk
      rcases ih _ h with h | h
      · rcases List.mem_cons.mp h with h | h
        · cases h; have : k = .free := by simpa using hk
          subst this; exact .inr ⟨.head _, rfl⟩
        · exact .inl h
      · exact .inr ⟨.tail _ h.1, h.2⟩
    · rcases ih _ h with h | h
      · exact .inl h
      · exact .inr ⟨.tail _ h.1, h.2⟩
theorem clos_has {cells : List (PySem.Str × Addr)} {n : PySem.Str} (names : List (PySem.Str × NameKind)) : ∀ (acc : List (PySem.Str × Addr)), ((n, NameKind.free) ∈ names ∨ ∃ a, (n, a) ∈ acc) → ∃ a, (n, a) ∈ closL cells names acc := by
  induction names with
  | nil =>
    intro acc h
    rcases h with h | h
    · cases h
    · exact h
  | cons p r ih =>
    obtain ⟨n', k⟩ := p
    intro acc h
    unfold closL
    split
    · rename_i hk
      refine ih _ ?_
      rcases h with h | ⟨a, h⟩
      · rcases List.mem_cons.mp h with h | h
        · cases h; exact .inr ⟨_, .head _⟩
        · exact .inl h
      · exact .inr ⟨a, .tail _ h⟩
    · rename_i hk
      refine ih _ ?_
      rcases h with h | h
      · rcases List.mem_cons.mp h with h | h
        · cases h; exact absurd rfl hk
        · exact .inl h
      · exact .inr h
theorem look_mem {α β : Type} [BEq α] [LawfulBEq α] {n : α} {a : β} {l : List (α × β)} (h : l.lookup n = some a) : (n, a) ∈ l := by
  induction l with
  | nil => cases h
  | cons p l ih =>
    obtain ⟨n', b⟩ := p
    rw [List.lookup_cons] at h
    split at h
    · rename_i e; cases h; rw [eq_of_beq e]; exact .head _
    · exact .tail _ (ih h)
theorem lookup_mem {β : Type} {n : PySem.Str} {a : β} {l : List (PySem.Str × β)} (h : l.lookup n = some a) : (n, a) ∈ l := look_mem h
theorem mem_lookup {β : Type} {n : PySem.Str} {a : β} {l : List (PySem.Str × β)} (h : (n, a) ∈ l) : ∃ b, l.lookup n = some b := by
  induction l with
  | nil => cases h
  | cons p l ih =>
    obtain ⟨n', b⟩ := p
    rw [List.lookup_cons]
    split
    · exact ⟨_, rfl⟩
    · rename_i e
      rcases List.mem_cons.mp h with h | h
      · cases h; simp at e
      · exact ih h

noncomputable def Cx.comp (c : Cx) (cs : Scope) (C : Addr) : Cx := ⟨compEnvC cs (closL c.env.cells cs.names []) C c.env, c.A, c.stk⟩
section
variable {prog : Program} {w : World} {b0 : Heap} {mg mb : PySem.Str → Option Value} {consts : String → Option V} {r : Rec} {n : Nat} {c : Cx} {E : List Addr} {φ : Frm} {Ω : List (String × Addr)} {s : Shared} {Q : Value → Shared → Prop} {QB : Bool → Shared → Prop} {Ex : Value → Shared → Prop} {A : Around}
variable {cs : Scope} {x : String} {C : Addr}

theorem relab_eq (ok : c.Ok n) : relabel cs c.env = relab cs c.env.scope := by
  unfold relabel relab
  have : (c.env.scope.kind == ScopeKind.function) = true := by rw [ok.kind]; rfl
  simp only [this, Bool.and_true, Env.kindOf]
theorem comp_scope (ok : c.Ok n) : (c.comp cs C).env.scope = relab cs c.env.scope := relab_eq ok
/-- a name of the comprehension's scope: its variable, or a cell of the def's -/
theorem relab_name {sc : Scope} {y : PySem.Str} {k : NameKind} (h : (relab cs sc).names.lookup y = some k) : ∃ k', (y, k') ∈ cs.names ∧ ((k' = .free ∧ sc.names.lookup y = some .cell ∧ k = .cell) ∨ k' = k) := by
  have hm := lookup_mem h
  unfold relab at hm
  obtain ⟨p, hp, e⟩ := List.mem_map.mp hm
  obtain ⟨y', k'⟩ := p
  dsimp only at e
  split at e
  · rename_i q
    cases e
    simp only [Bool.and_eq_true, beq_iff_eq] at q
    exact ⟨k', hp, .inl ⟨q.1, q.2, rfl⟩⟩
  · cases e; exact ⟨k, hp, .inr rfl⟩
theorem comp_ok (ok : c.Ok n) (hsc : CompSc cs c.env.scope x) : (c.comp cs C).Ok n where
  kind := hsc.kind
  globals := ok.globals
  builtins := ok.builtins
  frames := ok.frames
  handled := ok.handled
  depth := ok.depth
  units := ok.units
  cells := fun y h => by
    rw [comp_scope ok] at h
    obtain ⟨k', hm, h | h⟩ := relab_name h
    · rw [h.1] at hm
      obtain ⟨a, ha⟩ := clos_has (cells := c.env.cells) cs.names [] (.inl hm)
      exact mem_lookup ha
    · subst h; exact absurd rfl (hsc.nocell _ hm)
theorem clos_cell (ok : c.Ok n) (hsc : CompSc cs c.env.scope x) {y : PySem.Str} {a : Addr} (h : (closL c.env.cells cs.names []).lookup y = some a) : c.env.cells.lookup y = some a := by
  rcases clos_mem _ _ (lookup_mem h) with h | ⟨h, e⟩
  · cases h
  · obtain ⟨k, hk⟩ := ok.cells _ (hsc.free _ h rfl)
    rw [hk] at e; rw [hk, e]; rfl
theorem clos_pure (ok : c.Ok n) (hsc : CompSc cs c.env.scope x) : closureFor cs c.env = pure (closL c.env.cells cs.names []) := clos_eq fun y hy hf => ok.cells _ (hsc.free y hy hf)
theorem upd_lookup {x y : String} {sl : Slot} {φ : Frm} : (upd x sl φ).lookup y = if y = x then some sl else φ.lookup y := by
  induction φ with
  | nil =>
    unfold upd
    rw [List.lookup_cons]
    by_cases h : y = x
    · subst h; simp
    · rw [if_neg h, beq_eq_false_iff_ne.mpr h]
  | cons p r ih =>
    obtain ⟨z, s⟩ := p
    unfold upd
    split
    · rename_i hz
      subst hz
      rw [List.lookup_cons, List.lookup_cons]
      by_cases h : y = z
      · subst h; simp
      · rw [if_neg h, beq_eq_false_iff_ne.mpr h]
    · rename_i hz
      rw [List.lookup_cons, List.lookup_cons, ih]
      by_cases h : y = z
      · subst h; simp [hz]
      · rw [beq_eq_false_iff_ne.mpr h]
theorem vals_lookup {y : String} {φ : Frm} : (vals φ).lookup y = (φ.lookup y).map Slot.kept := by
  induction φ with
  | nil => rfl
  | cons p r ih =>
    obtain ⟨z, s⟩ := p
    show ((z, s.kept) :: vals r).lookup y = _
    rw [List.lookup_cons, List.lookup_cons, ih]
    split <;> rfl
theorem own_comp (ok : c.Ok n) (hsc : CompSc cs c.env.scope x) {a : Addr} (h : a ∈ (c.comp cs C).Y []) : a = C ∨ a ∈ c.Y Ω := by
  unfold Cx.Y Cx.own at h
  simp only [List.map_nil, List.append_nil] at h
  rcases List.mem_cons.mp h with h | h
  · exact .inl h
  · obtain ⟨⟨y, a'⟩, hp, rfl⟩ := List.mem_map.mp h
    have hp' : (y, a') ∈ closL c.env.cells cs.names [] := hp
    rcases clos_mem _ _ hp' with h | ⟨h, e⟩
    · cases h
    · obtain ⟨k, hk⟩ := ok.cells _ (hsc.free _ h rfl)
      rw [hk] at e
      right
      unfold Cx.Y Cx.own
      refine List.mem_append_left _ (.tail _ (List.mem_map.mpr ⟨(y, k), lookup_mem hk, e.symm⟩))
/-- the state inside a comprehension -/
theorem comp_st {h h₁ h' : Heap} {m : PySem.Str → Option Value} {v : Value} {d : V} {f : Bool} {D : Addr} (ok : c.Ok n) (hsc : CompSc cs c.env.scope x) (st : St (prog, w) b0 c E φ Ω h) (k : Kp c.fs [] h h') (hC : h.get? C = none) (hD : h.get? D = none)
    (hn : h'.Ns C m) (hm : m (nm x) = some v) (hDa : ∃ o, h'.get? D = some o) (hC₁ : h₁.get? C = none) (hD₁ : h₁.get? D = none) (ku : ∀ b o, h₁.get? b = some o → Held o → b ∉ c.Y Ω → h'.get? b = some o) (rv : R (prog, w) (fun a => (f = true → a ∉ E) ∧ a ∉ c.Y Ω) h₁ v d) :
    St (prog, w) b0 (c.comp cs C) (D :: (E ++ c.Y Ω)) (upd x (.val d f) (vals φ)) [] h' := by
  have st' := st.kp k
  obtain ⟨m₀, cm, h1, h2, h3⟩ := st.loc
  have ne : ∀ {a o}, h.get? a = some o → a ≠ C ∧ a ≠ D := fun {a o} e => ⟨fun z => (by rw [z, hC] at e; cases e), fun z => (by rw [z, hD] at e; cases e)⟩
  refine ⟨st'.stay, st'.ff, st'.fc, ⟨m, cm, hn, fun y a hy => ?_, fun y sl hl hy => ?_⟩, fun a ha => ?_, fun a ha => ?_⟩
  · obtain ⟨o, e', hd⟩ := h2 y a (clos_cell ok hsc hy)
    obtain ⟨sl, e''⟩ := k.there e' (by simp)
    exact ⟨_, e'', hd⟩
  · rw [comp_scope ok] at hy
    rw [upd_lookup] at hl
    by_cases e : y = x
    · subst e
      rw [if_pos rfl] at hl
      cases hl
      have hkx : atName (c.comp cs C) m cm (nm y) = m (nm y) := by
        unfold atName Env.kindOf
        rw [show (c.comp cs C).env.scope.names.lookup (nm y) = some .local from lookup_relabel_local hsc.var]
      refine ⟨v, hkx.trans hm, rv.mono (fun b o hb e hh => ku b o e hh hb.2) fun a o ha e => ⟨fun hf z => ?_, fun z => ?_⟩⟩
      · rcases List.mem_cons.mp z with z | z
        · rw [z, hD₁] at e; cases e
        · rcases List.mem_append.mp z with z | z
          · exact ha.1 hf z
          · exact ha.2 z
      · rcases own_comp (Ω := Ω) ok hsc z with z | z
        · rw [z, hC₁] at e; cases e
        · exact ha.2 z
    · rw [if_neg e, vals_lookup] at hl
      cases hq : φ.lookup y with
      | none => rw [hq] at hl; cases hl
      | some sl₀ =>
        rw [hq] at hl
        cases hl
        cases sl₀ with
        | acc => trivial
        | tab => trivial
        | gone => trivial
        | val d₀ f₀ =>
          have hcell : c.env.scope.names.lookup (nm y) = some .cell ∧ (c.comp cs C).env.scope.names.lookup (nm y) = some .cell := by
            rcases hy.1 with hl | hl
            · obtain ⟨k', hm', hh | hh⟩ := relab_name hl
              · exact nomatch hh.2.2
              · subst hh
                rcases hsc.one _ hm' rfl with z | z
                · exact absurd (nm_inj z) e
                · exact absurd (nm_inj z) hy.2.2
            · obtain ⟨k', hm', hh | hh⟩ := relab_name hl
              · exact ⟨hh.2.1, by rw [comp_scope ok]; exact hl⟩
              · subst hh; exact absurd rfl (hsc.nocell _ hm')
          obtain ⟨v₀, hv₀, r₀⟩ := h3 y _ hq ⟨.inr hcell.1, hy.2⟩
          have e1 : atName c m₀ cm (nm y) = cm (nm y) := by unfold atName Env.kindOf; rw [hcell.1]
          have e2 : atName (c.comp cs C) m cm (nm y) = cm (nm y) := by unfold atName Env.kindOf; rw [hcell.2]
          refine ⟨v₀, e2.trans (e1.symm.trans hv₀), r₀.mono (k.up fun _ _ => by simp) fun a o ha e => ⟨fun hf z => ?_, fun z => ?_⟩⟩
          · rcases List.mem_cons.mp z with z | z
            · exact (ne e).2 z
            · rcases List.mem_append.mp z with z | z
              · exact ha.1 hf z
              · exact ha.2 z
          · rcases own_comp (Ω := Ω) ok hsc z with z | z
            · exact (ne e).1 z
            · exact ha.2 z
  · rcases ha with ha | ha
    · rcases List.mem_cons.mp ha with ha | ha
      · rw [ha]; exact hDa
      · rcases List.mem_append.mp ha with ha | ha
        · exact st'.alive a (.inl ha)
        · exact st'.alive a (.inr ha)
    · rcases own_comp (Ω := Ω) ok hsc ha with ha | ha
      · obtain ⟨o, _, _, e, _⟩ := hn; rw [ha]; exact ⟨o, e⟩
      · exact st'.alive a (.inr ha)
  · have off : ∀ {a}, h.get? a = none → b0.get? a = none := fun {a} e => by
      cases q : b0.get? a with
      | none => rfl
      | some o => rw [st.stay a o q] at e; cases e
    rcases ha with ha | ha
    · rcases List.mem_cons.mp ha with ha | ha
      · rw [ha]; exact off hD
      · rcases List.mem_append.mp ha with ha | ha
        · exact st.off a (.inl ha)
        · exact st.off a (.inr ha)
    · rcases own_comp (Ω := Ω) ok hsc ha with ha | ha
      · rw [ha]; exact off hC
      · exact st.off a (.inr ha)
end
end Mine
end

section
set_option Elab.async false
namespace Mine
open PySem PySem.W PySem.Calls PyProof.Rows

section
variable {prog : Program} {w : World} {b0 : Heap} {mg mb : PySem.Str → Option Value} {consts : String → Option V} {r : Rec} {n : Nat} {c : Cx} {E : List Addr} {φ : Frm} {Ω : List (String × Addr)} {s : Shared} {Q : Value → Shared → Prop} {QB : Bool → Shared → Prop} {Ex : Value → Shared → Prop} {A : Around}
variable {cs : Scope} {x : String}

theorem Kp.off {fs Y : List Addr} {h h' : Heap} {b : Addr} {o : Obj} (k : Kp fs Y h h') (e : h.get? b = some o) (hb : b ∉ Y) (hf : b ∉ fs) : h'.get? b = some o := by
  rcases k b o e hb with e' | ⟨hm, _⟩
  · exact e'
  · exact absurd hm hf
/-- the tests of a comprehension, its condition in the small language -/
noncomputable def CIf (sc : Scope) (ifs : List Expr) (cond : Option TE) : Prop := (ifs = [] ∧ cond = none) ∨ ∃ t ti, ifs = [t] ∧ cond = some ti ∧ CT sc t ti
theorem compI_cons {r : Rec} {φ : Frm} {elt : IE} {x : String} {cond : Option TE} {u : V × Bool} {us : List (V × Bool)} {es : List V} (h : compI r φ elt x cond (u :: us) = .ok es) :
    (condI r (upd x (.val u.1 u.2) φ) cond = .ok true ∧ ∃ y e es', r.ev (upd x (.val u.1 u.2) φ) elt = .ok y ∧ fzV y = .ok e ∧ compI r φ elt x cond us = .ok es' ∧ es = e :: es') ∨ (condI r (upd x (.val u.1 u.2) φ) cond = .ok false ∧ compI r φ elt x cond us = .ok es) := by
  unfold compI at h
  cases hc : condI r (upd x (.val u.1 u.2) φ) cond with
  | bad => rw [hc] at h; cases h
  | exc m => rw [hc] at h; cases h
  | ok b =>
    rw [hc] at h
    cases b with
    | false => exact .inr ⟨rfl, h⟩
    | true =>
      refine .inl ⟨rfl, ?_⟩
      dsimp only at h
      cases he : r.ev (upd x (.val u.1 u.2) φ) elt with
      | bad => rw [he] at h; cases h
      | exc m => rw [he] at h; cases h
      | ok y =>
        rw [he] at h
        dsimp only [Res.bind] at h
        cases hf : fzV y with
        | bad => rw [hf] at h; cases h
        | exc m => rw [hf] at h; cases h
        | ok e =>
          rw [hf] at h
          dsimp only at h
          cases hr : compI r φ elt x cond us with
          | bad => rw [hr] at h; cases h
          | exc m => rw [hr] at h; cases h
          | ok es' => rw [hr] at h; cases h; exact ⟨y, e, es', rfl, hf, rfl, rfl⟩
theorem fz_R {u : V × Bool} {d : V} {ok : Addr → Prop} {P : Program × World} {h : Heap} {v : Value} (hf : fzV u = .ok d) (rv : R P (fun a => u.2 = true → ok a) h v u.1) : R P ok h v d := by
  unfold fzV at hf
  split at hf
  · rename_i q
    cases hf
    rcases Bool.or_eq_true_iff.mp q with q | q
    · exact rv.weak fun _ x => x q
    · exact rv.atom_any q
  · cases hf

inductive CInv (prog : Program) (w : World) (r : Rec) (φ : Frm) (ei : IE) (x : String) (cond : Option TE) (f : Bool) (ds es : List V) (ok : Addr → Prop) (fs : List Addr) (I D C : Addr) (h₁ : Heap) (Sv : Nat → Heap → Prop) (s : Shared) (k : Nat) (s' : Shared) : Prop
  | mk (h' : Heap) (tk : Nat) (m' : PySem.Str → Option Value) (ys : Array Value) (es₁ es₂ : List V) (i : Nat) : s' = { s with heap := h', toks := tk } → i ≤ ds.length → k = ds.length + 1 - i → Sv i h' → h'.PlainList D ys → h'.Ns C m' →
      RA (prog, w) ok h' ys.toList es₁ → compI r φ ei x cond ((ds.drop i).map fun d => (d, f)) = .ok es₂ → es = es₁ ++ es₂ → Kp fs [I] h₁ h' → ys.size ≤ i → CInv prog w r φ ei x cond f ds es ok fs I D C h₁ Sv s k s'
theorem comp_blk {elt iter : Expr} {px p : Pos} {ifs : List Expr} {ei : IE} {cond : Option TE} {es ds : List V} {f : Bool} {I : Addr} {h₁ : Heap} {tk₁ : Nat} {RR : Value → Addr → Result → Shared → Prop}
    (hE : SEv prog w b0 r n) (hT : STs prog w b0 r n) (ok : c.Ok n) (hsc : CompSc cs c.env.scope x) (st : St (prog, w) b0 c E φ Ω s.heap) (he : CE (relab cs c.env.scope) elt ei) (hc : CIf (relab cs c.env.scope) ifs cond)
    (k₁ : Kp c.fs [] s.heap h₁) (hI : s.heap.get? I = none) (src : Src prog w c.A (fun a => (f = true → a ∉ E) ∧ a ∉ c.Y Ω) c.fs (c.Y Ω) ds h₁ I) (hlen : ds.length ≤ sizeLine)
    (H : compI r (vals φ) ei x cond (ds.map fun d => (d, f)) = .ok es)
    (hRR : ∀ D C h' tk m', D ≠ C → s.heap.get? D = none → s.heap.get? C = none → h'.Ns C m' → R (prog, w) (fun a => a ∉ E ∧ a ∉ c.Y Ω ∧ a ≠ C) h' (.ref D) (.list es) → Kp c.fs [] s.heap h' → RR (.ref D) C (.ok .next) { s with heap := h', toks := tk }) :
    wpAny (model prog w) c.A (newList []) (fun acc s₃ => wpAny (model prog w) c.A (newFunctionEnv cs c.env.globals (closL c.env.cells cs.names []) [] c.env.qual none .none (some c.env)) (fun cenv s₄ =>
      codeAny (model prog w) c.A (.compStart (.ListComp elt [⟨.Name (nm x) px, iter, ifs, 0⟩] cs p) 0 (.ref I) acc { cenv with scope := relabel cs c.env }) (RR acc cenv.locals) s₄) Ex s₃) Ex { s with heap := h₁, toks := tk₁ } := by
  obtain ⟨fp, Pv, Sv, W, hst, hfp, hheld, hPv⟩ := src
  refine wpAny_newObj_type (wpAny_newFunctionEnv hsc.nocell (by intro y hy; simp at hy) (fun h₂ hns₂ hsb₂ => ?_) hsc.kind)
  dsimp only at hns₂ hsb₂ ⊢
  generalize hH2 : h₁.push { cls := .type "list", dict := none, data := .seq ([] : List Value).toArray } = H2 at hns₂ hsb₂ ⊢
  generalize hDe : h₁.objs.size = D
  generalize hCe : H2.objs.size = C at hns₂ hsb₂ ⊢
  have hCs : C = D + 1 := by rw [← hCe, ← hH2, ← hDe, Heap.size_push]
  have hDC : D ≠ C := by omega
  have hD₁ : h₁.get? D = none := gone_of_le (by omega)
  have hC₁ : h₁.get? C = none := gone_of_le (by omega)
  have hD₀ := none_back k₁ hD₁
  have hC₀ := none_back k₁ hC₁
  have old : ∀ b o, h₁.get? b = some o → h₂.get? b = some o := fun b o e => hsb₂.extBut b o (by rintro rfl; rw [hC₁] at e; cases e) (Heap.get?_push_of_some _ (hH2 ▸ Heap.get?_push_of_some _ e))
  have hacc₂ : h₂.PlainList D #[] := ⟨_, hsb₂.extBut _ _ hDC (Heap.get?_push_of_some _ (by rw [← hH2, ← hDe]; exact Heap.get?_push_size _ rfl))⟩
  have hst₂ : Sv 0 h₂ := W.frame _ _ _ hst fun b _ o e => old b o e
  have hIfp : I ∈ fp := W.sub I (.head _)
  have hI₁ : ∃ o, h₁.get? I = some o := (hfp I hIfp).2.2
  have hIC : I ≠ C := by rintro rfl; obtain ⟨o, e⟩ := hI₁; rw [hC₁] at e; cases e
  have hID : I ≠ D := by rintro rfl; obtain ⟨o, e⟩ := hI₁; rw [hD₁] at e; cases e
  have fpC : ∀ b ∈ fp, b ≠ C ∧ b ≠ D := fun b hb => by
    obtain ⟨o, e⟩ := (hfp b hb).2.2
    exact ⟨fun z => (by rw [z, hC₁] at e; cases e), fun z => (by rw [z, hD₁] at e; cases e)⟩
  have ok' : (c.comp cs C).Ok n := comp_ok ok hsc
  have hsco : (c.comp cs C).env.scope = relab cs c.env.scope := comp_scope ok
  have loop : ∀ s₃ : Shared, s₃ = { s with heap := h₂, toks := tk₁ + ([] : List (PySem.Str × Value)).length } →
      codeAny (model prog w) c.A (.compLoop (.ListComp elt [⟨.Name (nm x) px, iter, ifs, 0⟩] cs p) 0 (.ref I) (.ref D) (c.comp cs C).env) (RR (.ref D) C) s₃ := by
    rintro s₃ rfl
    refine codeAny_compLoop_tests
      (CInv prog w r (vals φ) ei x cond f ds es (fun a => a ∉ D :: (E ++ c.Y Ω) ∧ a ∉ (c.comp cs C).Y []) c.fs I D C h₁ Sv s) ?_ (ds.length + 1)
      ⟨h₂, _, _, #[], [], es, 0, rfl, Nat.zero_le _, rfl, hst₂, hacc₂, hns₂, .nil, by simpa using H, rfl, .of_keeps old, Nat.le_refl _⟩
    rintro k s' ⟨h', tk, m', ys, es₁, es₂, i, rfl, hi, rfl, hst', hacc', hn', ra', hcomp, rfl, kp', hys⟩
    have kp₀ : Kp c.fs [] s.heap h' := k₁.trans' kp' fun b o e hb => by rw [List.mem_singleton] at hb; rw [hb, hI] at e; cases e
    by_cases hlt : i < ds.length
    · refine W.item i _ _ _ hlt hst' fun v h₃ tk₃ hv hst₃ hk₃ => ?_
      obtain ⟨d, hd, rd⟩ := hPv i v hv
      have kI : Kp c.fs [I] h' h₃ := fun b o e hb => .inl (hk₃ b o hb e)
      have upI : ∀ ok : Addr → Prop, UpAt ok h' h₃ := fun ok b o _ e hh => hk₃ b o (fun z => by
        rw [List.mem_singleton] at z
        obtain ⟨o', e', nh⟩ := hheld i h' hst'
        rw [z, e'] at e; cases e; exact nh hh) e
      refine wpAny_assign_Name (wpAny_storeName_local (env := (c.comp cs C).env) (lookup_relabel_local hsc.var) (hn'.at' fun o e => hk₃ _ o (by rw [List.mem_singleton]; exact hIC.symm) e) (fun h₄ hn₄ hs₄ => ?_) (by rw [show (c.comp cs C).env.scope.kind = .function from hsc.kind]; rfl))
      have hst₄ : Sv (i + 1) h₄ := W.frame _ _ _ hst₃ fun b hb o e => hs₄.extBut b o (fpC b hb).1 e
      have kC : ∀ b o, b ≠ C → h₃.get? b = some o → h₄.get? b = some o := fun b o hb e => hs₄.extBut b o hb e
      have up₄ : ∀ b o, h₁.get? b = some o → Held o → b ∉ c.Y Ω → h₄.get? b = some o := fun b o e hh _ => by
        have hbI : b ≠ I := by
          rintro rfl
          obtain ⟨o', e', nh⟩ := hheld 0 h₁ hst
          rw [e'] at e; cases e; exact nh hh
        have hbC : b ≠ C := by rintro rfl; rw [hC₁] at e; cases e
        exact kC b o hbC (hk₃ b o (by rw [List.mem_singleton]; exact hbI) (kp'.same e (by rw [List.mem_singleton]; exact hbI) hh.noFrame))
      have kp₄ : Kp c.fs [I] h₁ h₄ := (kp'.trans kI).trans' (Y' := [C]) (fun b o e hb => .inl (kC b o (fun z => hb (by rw [z]; exact .head _)) e)) fun b o e hb => by rw [List.mem_singleton] at hb; rw [hb, hC₁] at e; cases e
      have kp₀₄ : Kp c.fs [] s.heap h₄ := k₁.trans' kp₄ fun b o e hb => by rw [List.mem_singleton] at hb; rw [hb, hI] at e; cases e
      have hDa₄ : h₄.PlainList D ys := hacc'.at fun o e => kC D o hDC (hk₃ D o (by rw [List.mem_singleton]; exact hID.symm) e)
      have ra₄ : RA (prog, w) (fun a => a ∉ D :: (E ++ c.Y Ω) ∧ a ∉ (c.comp cs C).Y []) h₄ ys.toList es₁ := (ra'.mono (upI _) fun _ _ x _ => x).mono (fun b o hb e _ => kC b o (fun z => hb.2 (by rw [z]; exact .head _)) e) fun _ _ x _ => x
      have stC : St (prog, w) b0 (c.comp cs C) (D :: (E ++ c.Y Ω)) (upd x (.val d f) (vals φ)) [] h₄ :=
        comp_st ok hsc st kp₀₄ hC₀ hD₀ hn₄ (by simp) (let ⟨_, e⟩ := hDa₄; ⟨_, e⟩) hC₁ hD₁ up₄ rd
      have hdrop : ds.drop i = d :: ds.drop (i + 1) := by
        rw [List.drop_eq_getElem_cons hlt]
        rw [List.getElem?_eq_getElem hlt] at hd
        rw [Option.some.inj hd]
      rw [hdrop, List.map_cons] at hcomp
      have hcase := compI_cons hcomp
      have hcond : ∀ (b : Bool) (QT : Bool → Shared → Prop) (E' : Value → Shared → Prop), condI r (upd x (.val d f) (vals φ)) cond = .ok b → (∀ h₅ tk₅, Kp c.fs [] h₄ h₅ → QT b { s with heap := h₅, toks := tk₅ }) →
          wpAny (model prog w) c.A (forIn ifs true fun t r => if r = true then do let ok ← isTrue t (c.comp cs C).env (eval t (c.comp cs C).env); pure (ForInStep.yield ok) else pure (ForInStep.yield r)) QT E' { s with heap := h₄, toks := tk₃ + 1 } := by
        intro b QT E' hb hq
        rcases hc with ⟨rfl, rfl⟩ | ⟨t, ti, rfl, rfl, hct⟩
        · cases hb; exact wpAny_pure (hq _ _ .refl)
        · rw [List.forIn_cons]
          simp only [if_true]
          refine wpAny_bind (wpAny_bind (hT (c.comp cs C) _ _ _ { s with heap := h₄, toks := tk₃ + 1 } t ti _ _ ok' stC (by rw [hsco]; exact hct) ?_))
          have hb' : r.ts (upd x (.val d f) (vals φ)) ti = .ok b := hb
          rw [hb']
          intro h₅ tk₅ k₅
          exact wpAny_pure (wpAny_pure (hq _ _ k₅))
      have hst₅ : ∀ {h₅}, Kp c.fs [] h₄ h₅ → Sv (i + 1) h₅ := fun k₅ => W.frame _ _ _ hst₄ fun b hb o e => k₅.off e (by simp) (hfp b hb).1
      rcases hcase with ⟨htrue, y, e, es', hy, hfz, hrest, rfl⟩ | ⟨hfalse, hrest⟩
      · refine hcond true _ _ htrue fun h₅ tk₅ k₅ => ?_
        simp only [if_true]
        have st₅ := stC.kp k₅
        refine hE (c.comp cs C) _ _ _ { s with heap := h₅, toks := tk₅ } elt ei _ _ ok' st₅ (by rw [hsco]; exact he) ?_
        rw [hy]
        intro v' h₆ tk₆ k₆ rv'
        have hD₆ : h₆.PlainList D ys := (hDa₄.at fun o e => k₅.same e (by simp) (by obtain ⟨_, e'⟩ := hDa₄; rw [e'] at e; cases e; exact noFrame rfl (by decide))).at fun o e => by
          have hx := hDa₄.at (h' := h₅) fun o e => k₅.same e (by simp) (by obtain ⟨_, e'⟩ := hDa₄; rw [e'] at e; cases e; exact noFrame rfl (by decide))
          exact k₆.same e (by simp) (by obtain ⟨_, e'⟩ := hx; rw [e'] at e; cases e; exact noFrame rfl (by decide))
        refine wpAny_list_append_plain (hsz := by omega) hD₆ fun h₇ hD₇ hs₇ => ?_
        have rf := fz_R hfz rv'
        refine ⟨ds.length + 1 - (i + 1), by omega, h₇, tk₆, _, ys.push v', es₁ ++ [e], es', i + 1, rfl, hlt, rfl, ?_, hD₇, (k₆.slots.ns (k₅.slots.ns hn₄)).sameBut hs₇ hDC.symm, ?_, hrest, by simp, ?_, by simp; omega⟩
        · exact W.frame _ _ _ (hst₅ k₅) fun b hb o e => hs₇.extBut b o (fpC b hb).2 (k₆.off e (by simp) (hfp b hb).1)
        · have upD : UpAt (fun a => a ∉ D :: (E ++ c.Y Ω) ∧ a ∉ (c.comp cs C).Y []) h₆ h₇ := fun b o hb e _ => hs₇.extBut b o (fun z => hb.1 (by rw [z]; exact .head _)) e
          have r1 := ((ra₄.mono (k₅.up fun _ _ => by simp) fun _ _ x _ => x).mono (k₆.up fun _ _ => by simp) fun _ _ x _ => x).mono upD fun _ _ x _ => x
          have r2 := rf.mono upD fun _ _ x _ => x
          rw [Array.toList_push]
          exact r1.append (.one r2)
        · refine ((kp₄.trans (k₅.weak fun _ z => nomatch z)).trans (k₆.weak fun _ z => nomatch z)).trans' (Y' := [D]) (fun b o e hb => .inl (hs₇.extBut b o (fun z => hb (by rw [z]; exact .head _)) e)) fun b o e hb => ?_
          rw [List.mem_singleton] at hb; rw [hb, hD₁] at e; cases e
      · refine hcond false _ _ hfalse fun h₅ tk₅ k₅ => ?_
        simp only [Bool.false_eq_true, if_false]
        have hD₅ : h₅.PlainList D ys := hDa₄.at fun o e => k₅.same e (by simp) (by obtain ⟨_, e'⟩ := hDa₄; rw [e'] at e; cases e; exact noFrame rfl (by decide))
        exact ⟨ds.length + 1 - (i + 1), by omega, h₅, tk₅, _, ys, es₁, es₂, i + 1, rfl, hlt, rfl, hst₅ k₅, hD₅, k₅.slots.ns hn₄, ra₄.mono (k₅.up fun _ _ => by simp) fun _ _ x _ => x, hrest, rfl, kp₄.trans (k₅.weak fun _ z => nomatch z), by omega⟩
    · have hin : i = ds.length := by omega
      subst hin
      have hes : es₂ = [] := by
        rw [List.drop_length, List.map_nil] at hcomp
        cases hcomp; rfl
      subst hes
      refine W.done _ _ _ hst' fun h₃ tk₃ hk₃ => ?_
      have upI : ∀ ok : Addr → Prop, UpAt ok h' h₃ := fun ok b o _ e hh => hk₃ b o (fun z => by
        rw [List.mem_singleton] at z
        obtain ⟨o', e', nh⟩ := hheld _ h' hst'
        rw [z, e'] at e; cases e; exact nh hh) e
      obtain ⟨kk, hDe⟩ : h₃.PlainList D ys := hacc'.at fun o e => hk₃ D o (by rw [List.mem_singleton]; exact hID.symm) e
      refine hRR D C h₃ tk₃ m' hDC hD₀ hC₀ (hn'.at' fun o e => hk₃ _ o (by rw [List.mem_singleton]; exact hIC.symm) e) ?_ (kp₀.trans' (Y' := [I]) (fun b o e hb => .inl (hk₃ b o hb e)) fun b o e hb => by rw [List.mem_singleton] at hb; rw [hb, hI] at e; cases e)
      rw [List.append_nil]
      have hDn := (st.kp k₁).fresh (a := D) (by omega)
      refine .list (vs := ys.toList) ⟨hDn.1, hDn.2, hDC⟩ hDe rfl (n := kk) (by simp) (by rw [Array.length_toList]; omega) ((ra'.mono (upI _) fun _ _ x _ => x).weak fun a ha => ⟨fun z => ha.1 (.tail _ (List.mem_append_left _ z)), fun z => ha.1 (.tail _ (List.mem_append_right _ z)), fun z => ha.2 (by rw [z]; exact .head _)⟩)
  exact codeAny_compStart_list (loop _ rfl) (W.self 0 _ _ _ hst₂ (loop _ rfl))
end
end Mine
end

section
set_option Elab.async false
namespace Mine
open PySem PySem.W PySem.Calls PyProof.Rows

theorem compI_exc {r : Rec} {φ : Frm} {elt : IE} {x : String} {cond : Option TE} {m : Msg} {us : List (V × Bool)} : compI r φ elt x cond us ≠ .exc m := by
  induction us generalizing m with
  | nil => exact fun h => nomatch h
  | cons u us ih =>
    intro h
    unfold compI at h
    split at h
    · split at h
      · cases hr : compI r φ elt x cond us with
        | ok es => rw [hr] at h; cases h
        | exc m' => exact ih hr
        | bad => rw [hr] at h; cases h
      · cases h
    · exact ih h
    · cases h
section
variable {prog : Program} {w : World} {b0 : Heap} {mg mb : PySem.Str → Option Value} {consts : String → Option V} {r : Rec} {n : Nat} {c : Cx} {E : List Addr} {φ : Frm} {Ω : List (String × Addr)} {s : Shared} {Q : Value → Shared → Prop} {QB : Bool → Shared → Prop} {Ex : Value → Shared → Prop} {A : Around}
variable {cs : Scope} {x : String}

/-- the block of a comprehension, whatever is done with its list -/
theorem comp_run {elt iter : Expr} {px p : Pos} {ifs : List Expr} {ei : IE} {it : It} {cond : Option TE} {RR : Value → Addr → Result → Shared → Prop} (S : Stat (prog, w) b0 mg mb consts)
    (hE : SEv prog w b0 r n) (hT : STs prog w b0 r n) (ok : c.Ok n) (hsc : CompSc cs c.env.scope x) (st : St (prog, w) b0 c E φ Ω s.heap) (hi : CI c.env.scope iter it) (he : CE (relab cs c.env.scope) elt ei) (hc : CIf (relab cs c.env.scope) ifs cond) {X : Msg → Prop} (hX : ∀ m, X m → XPost c s Ex m)
    (H : G (evI consts r φ (.comp ei x it cond)) (fun u => ∃ es, u = (.list es, true) ∧ ∀ D C h' tk m', D ≠ C → s.heap.get? D = none → s.heap.get? C = none → h'.Ns C m' → R (prog, w) (fun a => a ∉ E ∧ a ∉ c.Y Ω ∧ a ≠ C) h' (.ref D) (.list es) → Kp c.fs [] s.heap h' → RR (.ref D) C (.ok .next) { s with heap := h', toks := tk }) X) :
    wpAny (model prog w) c.A (eval iter c.env) (fun xv s₁ => wpAny (model prog w) c.A (pyIter xv) (fun itv s₂ => wpAny (model prog w) c.A (newList []) (fun acc s₃ =>
      wpAny (model prog w) c.A (newFunctionEnv cs c.env.globals (closL c.env.cells cs.names []) [] c.env.qual none .none (some c.env)) (fun cenv s₄ =>
        codeAny (model prog w) c.A (.compStart (.ListComp elt [⟨.Name (nm x) px, iter, ifs, 0⟩] cs p) 0 itv acc { cenv with scope := relabel cs c.env }) (RR acc cenv.locals) s₄) Ex s₃) Ex s₂) Ex s₁) Ex s := by
  dsimp only [evI] at H
  rcases G.ite H with ⟨hs, H⟩ | ⟨_, H⟩
  · refine iter_sound S hE ok st hi hs (H.bind.mono (fun us _ Hus I h' tk ds f e hlen kp hI src => ?_) fun m _ X => hX m X)
    subst e
    rcases G.ite Hus with ⟨_, Hus⟩ | ⟨_, Hus⟩
    · cases hcomp : compI r (vals φ) ei x cond (ds.map fun d => (d, f)) with
      | bad => rw [hcomp] at Hus; exact Hus.elim
      | exc m => exact absurd hcomp compI_exc
      | ok es =>
        rw [hcomp] at Hus
        obtain ⟨es', e, hq⟩ := (show ∃ es', ((V.list es, true) : V × Bool) = (.list es', true) ∧ _ from Hus)
        cases e
        exact comp_blk hE hT ok hsc st he hc kp hI src hlen hcomp hq
    · exact Hus.elim
  · exact H.elim
theorem comp_list {ei : IE} {it : It} {cond : Option TE} {u : V × Bool} (hu : evI consts r φ (.comp ei x it cond) = .ok u) : ∃ es, u = (.list es, true) := by
  dsimp only [evI] at hu
  split at hu
  · cases h1 : iterI r φ it with
    | bad => rw [h1] at hu; cases hu
    | exc m => rw [h1] at hu; cases hu
    | ok us =>
      rw [h1] at hu
      dsimp only [Res.bind] at hu
      split at hu
      · cases h2 : compI r (vals φ) ei x cond us with
        | bad => rw [h2] at hu; cases hu
        | exc m => rw [h2] at hu; cases hu
        | ok es => rw [h2] at hu; cases hu; exact ⟨es, rfl⟩
      · cases hu
  · cases hu
theorem ev_comp {elt iter : Expr} {px p : Pos} {ifs : List Expr} {ei : IE} {it : It} {cond : Option TE} (S : Stat (prog, w) b0 mg mb consts)
    (hE : SEv prog w b0 r n) (hT : STs prog w b0 r n) (ok : c.Ok n) (hsc : CompSc cs c.env.scope x) (st : St (prog, w) b0 c E φ Ω s.heap) (hi : CI c.env.scope iter it) (he : CE (relab cs c.env.scope) elt ei) (hc : CIf (relab cs c.env.scope) ifs cond)
    (H : G (evI consts r φ (.comp ei x it cond)) (EvPost (prog, w) c E Ω s Q) (XPost c s Ex)) : wpAny (model prog w) c.A (eval (.ListComp elt [⟨.Name (nm x) px, iter, ifs, 0⟩] cs p) c.env) Q Ex s := by
  rw [eval_ListComp]
  refine wpAny_comprehension_free (use := none) rfl (fun v => hi.noSet _ v) (clos_pure ok hsc) hsc.kind hsc.names (comp_run S hE hT ok hsc st hi he hc (X := XPost c s Ex) (fun _ X => X) (H.mono (fun u hu Hu => ?_) fun _ _ X => X))
  obtain ⟨es, rfl⟩ := comp_list hu
  refine ⟨es, rfl, fun D C h' tk m' hDC hD hC hn rv kp => ⟨m', hn, fun h'' hs => ?_⟩⟩
  refine (show EvPost (prog, w) c E Ω s Q (.list es, true) from Hu) _ _ _ (kp.trans' (Y' := [C]) (fun b o e hb => .inl (hs.extBut b o (fun z => hb (by rw [z]; exact .head _)) e)) fun b o e hb => ?_) (rv.mono (fun b o hb e _ => hs.extBut b o hb.2.2 e) fun _ _ x _ _ => ⟨x.1, x.2.1⟩)
  rw [List.mem_singleton] at hb; rw [hb, hC] at e; cases e
end
end Mine
end

section
set_option Elab.async false
namespace Mine
open PySem PySem.W PySem.Calls PyProof.Rows

/-! ## the statements of the small language -/
noncomputable def isComp : IE → Bool
  | .comp .. => true
  | _ => false
noncomputable def isTupE : IE → Bool
  | .tuple .. => true
  | _ => false
section
variable {sc : Scope} {e : Expr} {i : IE} {env : Env} {l : Nat} (h : CE sc e i)
include h
theorem CE.swN {t : Option Expr} (hc : isComp i = false) : swapsWith e t l env = pure false := by
  obtain ⟨n, h, _⟩ := h.one
  rw [← h]
  cases i <;> first | rfl | cases hc
theorem CE.swS {o k : Expr} {p : Pos} : swapsWith e (some (.Subscript o k p)) l env = pure false := by
  obtain ⟨n, h, _⟩ := h.one
  rw [← h]
  cases i <;> rfl
theorem CE.swT {es : List Expr} {k : Nat} {p : Pos} : swapsWithSole [.Tuple es k p] e l env = pure false := by
  obtain ⟨n, h, _⟩ := h.one
  rw [← h]
  cases i <;> rfl
theorem CE.stT {es : List Expr} {k : Nat} {p : Pos} (hc : isTupE i = false) : swappedStores [.Tuple es k p] e env = pure none := by
  obtain ⟨n, h, _⟩ := h.one
  rw [← h]
  cases i <;> first | rfl | cases hc
end
inductive CNs : Scope → List Expr → List String → Prop
  | nil {sc} : CNs sc [] []
  | cons {sc x p es xs} : LName sc x → x ∉ xs → CNs sc es xs → CNs sc (.Name (nm x) p :: es) (x :: xs)
noncomputable def slook (s : Stmt) : List Expr × List Stmt × List Stmt × List ExceptHandler := match s with
  | .Assign ts v _ => (v :: ts, [], [], [])
  | .Expr e _ => ([e], [], [], [])
  | .If t a b _ => ([t], a, b, [])
  | .For t i b _ _ => ([t, i], b, [], [])
  | .Return v _ => (v.toList, [], [], [])
  | .Raise a b _ => (a.toList ++ b.toList, [], [], [])
  | .Delete ts _ => (ts, [], [], [])
  | .Try b hs _ _ _ => ([], b, [], hs)
  | _ => ([], [], [], [])
noncomputable def sk (n : Nat) (s : Stmt) : Expr := (slook s).1.getD n default
noncomputable def hlook : ExceptHandler → Expr × Stmt × Pos
  | .ExceptHandler t _ b p => (t.getD default, b.headD default, p)
/-- the one handler -/
noncomputable def hnd (s : Stmt) : Expr × Stmt × Pos := hlook ((slook s).2.2.2.headD default)
noncomputable def body0 (s : Stmt) : Stmt := (slook s).2.1.headD default
noncomputable def nameN (x : String) (e : Expr) : Expr := .Name (nm x) e.pos
noncomputable def namesT (xs : List String) (e : Expr) : Expr := .Tuple (zipW (fun e x => nameN x e) xs (look e).1) (look e).2.1 e.pos
noncomputable def tryT (s b : Stmt) (er : String) (h : Stmt) : Stmt := .Try [b] [.ExceptHandler (some (nameN "ValueError" (hnd s).1)) (some (nm er)) [h] (hnd s).2.2] [] [] s.pos
noncomputable def errI (er nu : String) : IE := .call "ValueError" [.fstr [.lit (nm "line "), .fmt (.var nu), .lit (nm ": "), .fmt (.var er)]]
noncomputable def toS : Nat → Stmt → IS → Stmt
  | 0, s, _ => s
  | n + 1, s, i => match i with
    | .assign x e => .Assign [nameN x (sk 1 s)] (toE n (sk 0 s) e) s.pos
    | .unpack xs e => .Assign [namesT xs (sk 1 s)] (toE n (sk 0 s) e) s.pos
    | .newAcc x => .Assign [nameN x (sk 1 s)] (.List [] (sk 0 s).pos) s.pos
    | .newTab x => .Assign [nameN x (sk 1 s)] (.Dict [] [] (sk 0 s).pos) s.pos
    | .append x e => .Expr (callM x "append" (sk 0 s) [toE n (kid 1 (sk 0 s)) e]) s.pos
    | .appendMut x f t es => .Expr (callM x "append" (sk 0 s) [callN f (kid 1 (sk 0 s)) (nameN t (kid 1 (kid 1 (sk 0 s))) :: zipW (toE n) es (args (kid 1 (sk 0 s))).tail)]) s.pos
    | .setKey t k e => .Assign [.Subscript (nameN t (kid 0 (sk 1 s))) (toE n (kid 1 (sk 1 s)) k) (sk 1 s).pos] (toE n (sk 0 s) e) s.pos
    | .popTo y t k => .Assign [nameN y (sk 1 s)] (callM t "pop" (sk 0 s) [toE n (kid 1 (sk 0 s)) k]) s.pos
    | .popKey t k => .Expr (callM t "pop" (sk 0 s) [toE n (kid 1 (sk 0 s)) k]) s.pos
    | .delKey t k => .Delete [.Subscript (nameN t (kid 0 (sk 0 s))) (toE n (kid 1 (sk 0 s)) k) (sk 0 s).pos] s.pos
    | .ite t a b => .If (toT n (sk 0 s) t) (zipW (toS n) a (slook s).2.1) (zipW (toS n) b (slook s).2.2.1) s.pos
    | .for1 x it is => .For (nameN x (sk 0 s)) (toI n (sk 1 s) it) (zipW (toS n) is (slook s).2.1) [] s.pos
    | .forN xs it is => .For (namesT xs (sk 0 s)) (toI n (sk 1 s) it) (zipW (toS n) is (slook s).2.1) [] s.pos
    | .ret e => .Return (some (toE n (sk 0 s) e)) s.pos
    | .raise e => .Raise (some (callN "ValueError" (sk 0 s) [toE n (kid 1 (sk 0 s)) e])) none s.pos
    | .tryStr x e y er => tryT s (toS n (body0 s) (.assign x e)) er (toS n (hnd s).2.1 (.assign y (.strOf (.var er))))
    | .tryLine t1 x e1 t2 e2 m nu => tryT s (toS n (body0 s) (.ite t1 [.append x e1] [.ite t2 [.append x e2] [.raise m]])) "error" (.Raise (some (toE n (sk 0 (hnd s).2.1) (errI "error" nu))) (some (.Constant .none (look (sk 1 (hnd s).2.1)).2.1 (sk 1 (hnd s).2.1).pos)) (hnd s).2.1.pos)
    | .pickFirst x y t => .For (nameN x (sk 0 s)) (nameN t (sk 1 s)) [.Assign [nameN y (sk 1 (body0 s))] (nameN x (sk 0 (body0 s))) (body0 s).pos, .Break ((slook s).2.1.getD 1 default).pos] [] s.pos
    | .cont => .Continue s.pos
    | .brk => .Break s.pos
noncomputable def nmsB (sc : Scope) (xs : List String) : Bool := xs.all (lnB sc) && decide xs.Nodup
theorem nms_ok {sc : Scope} {xs : List String} (h1 : ∀ x ∈ xs, lnB sc x = true) (h2 : xs.Nodup) : ∀ {es : List Expr}, CNs sc (zipW (fun e x => nameN x e) xs es) xs := by
  induction xs with
  | nil => exact .nil
  | cons x xs ih => exact .cons (lnB_ok (h1 x (.head _))) (List.nodup_cons.mp h2).1 (ih (fun y hy => h1 y (.tail _ hy)) (List.nodup_cons.mp h2).2)
theorem nmsB_ok {sc : Scope} {xs : List String} {es : List Expr} (h : nmsB sc xs = true) : CNs sc (zipW (fun e x => nameN x e) xs es) xs := nms_ok (List.all_eq_true.mp (and_ok h).1) (of_decide_eq_true (and_ok h).2)
/-- a comprehension whose value goes to a name -/
noncomputable def asB (sc : Scope) (s : Stmt) (x : String) (e : IE) : Bool := match e with
  | .comp .. => loB sc x && (((sk 1 s).pos.line == (sk 0 s).pos.line) && !((look (sk 0 s)).2.2.names.any fun z => z.1 == nm x && (z.2 == .local || z.2 == .cell)))
  | _ => lnB sc x
theorem asB_ok {sc : Scope} {s : Stmt} {x : String} {e : IE} (h : asB sc s x e = true) (hc : isComp e = false) : LName sc x := by
  cases e <;> first | exact lnB_ok h | cases hc
/-- for x, y in enumerate(e, 1) -/
noncomputable def foB (n : Nat) (sc : Scope) (xs : List String) (e : Expr) (it : It) : Bool := match it with
  | .enum i => decide (xs.length = 2) && (gnB sc "enumerate" && okE (n - 1) sc (kid 1 e) i)
  | _ => false
noncomputable def okS : Nat → Scope → Stmt → IS → Bool
  | 0, _, _, _ => false
  | n + 1, sc, s, i => match i with
    | .assign x e => asB sc s x e && okE n sc (sk 0 s) e
    | .unpack xs e => nmsB sc xs && (!isTupE e && okE n sc (sk 0 s) e)
    | .newAcc x => lnB sc x
    | .newTab x => lnB sc x
    | .append x e => lnB sc x && (lineM (sk 0 s) && okE n sc (kid 1 (sk 0 s)) e)
    | .appendMut x f t es => lnB sc x && (lineM (sk 0 s) && (gnB sc f && (lnB sc t && zipB (okE n sc) es (args (kid 1 (sk 0 s))).tail)))
    | .setKey t k e => lnB sc t && (okE n sc (kid 1 (sk 1 s)) k && okE n sc (sk 0 s) e)
    | .popTo y t k => lnB sc y && (lnB sc t && (lineM (sk 0 s) && okE n sc (kid 1 (sk 0 s)) k))
    | .popKey t k => lnB sc t && (lineM (sk 0 s) && okE n sc (kid 1 (sk 0 s)) k)
    | .delKey t k => lnB sc t && okE n sc (kid 1 (sk 0 s)) k
    | .ite t a b => okT n sc (sk 0 s) t && (zipB (okS n sc) a (slook s).2.1 && zipB (okS n sc) b (slook s).2.2.1)
    | .for1 x it is => lnB sc x && (it.simple && (okI n sc (sk 1 s) it && zipB (okS n sc) is (slook s).2.1))
    | .forN xs it is => nmsB sc xs && (foB n sc xs (sk 1 s) it && zipB (okS n sc) is (slook s).2.1)
    | .ret e => okE n sc (sk 0 s) e
    | .raise e => gnB sc "ValueError" && okE n sc (kid 1 (sk 0 s)) e
    | .tryStr x e y er => decide (5 ≤ n) && (gnB sc "ValueError" && (loB sc er && (decide (er ≠ y) && (!isComp e && (okS n sc (body0 s) (.assign x e) && okS n sc (hnd s).2.1 (.assign y (.strOf (.var er))))))))
    | .tryLine t1 x e1 t2 e2 m nu => decide (5 ≤ n) && (loB sc "error" && (lnB sc nu && (decide ("error" ≠ nu) && okS n sc (body0 s) (.ite t1 [.append x e1] [.ite t2 [.append x e2] [.raise m]]))))
    | .pickFirst x y t => lnB sc x && (lnB sc y && lnB sc t)
    | .cont => true
    | .brk => true
noncomputable def CS (sc : Scope) (s : Stmt) (i : IS) : Prop := ∃ n, toS n s i = s ∧ okS n sc s i = true
theorem CS.one {sc : Scope} {s : Stmt} {i : IS} (h : CS sc s i) : ∃ n, toS (n + 1) s i = s ∧ okS (n + 1) sc s i = true := by
  obtain ⟨n, h1, h2⟩ := h
  cases n with
  | zero => cases h2
  | succ n => exact ⟨n, h1, h2⟩
abbrev CB (sc : Scope) : List Stmt → List IS → Prop := All2 (CS sc)
theorem mkB {sc : Scope} {n : Nat} {as : List Stmt} {is : List IS} (h : zipW (toS n) is as = as) (o : zipB (okS n sc) is as = true) : CB sc (zipW (toS n) is as) is := zip_all (fun _ _ h o => ⟨n, h, o⟩) h o

/-! ## the state of a def's body -/
structure Cx.Fn (c : Cx) : Prop where
  head : ∃ outer, c.stk = c.env :: outer
  frame : c.env.frame = some c.env.locals
structure StS (P : Program × World) (b0 : Heap) (c : Cx) (E : List Addr) (φ : Frm) (Ω : List (String × Addr)) (h : Heap) : Prop where
  st : St P b0 c E φ Ω h
  nodup : (c.own ++ Ω.map (·.2)).Nodup
  dom : ∀ x, φ.lookup x = none → Ω.lookup x = none
  accE : ∀ x ds a, φ.lookup x = some (.acc ds) → Ω.lookup x = some a → a ∉ E
  apart : ∀ b ∈ c.fs, b ≠ c.env.locals → b ∉ c.Y Ω
noncomputable def Gr (c : Cx) (h : Heap) (Ω Ω' : List (String × Addr)) : Prop := (∀ x a, Ω.lookup x = some a → Ω'.lookup x = some a) ∧ ∀ a ∈ c.Y Ω', a ∈ c.Y Ω ∨ h.get? a = none
theorem Gr.refl {c : Cx} {h : Heap} {Ω : List (String × Addr)} : Gr c h Ω Ω := ⟨fun _ _ e => e, fun _ h => .inl h⟩
theorem Gr.trans {c : Cx} {h h' : Heap} {Ω Ω' Ω'' : List (String × Addr)} {fs : List Addr} (g : Gr c h Ω Ω') (k : Kp fs (c.Y Ω) h h') (g' : Gr c h' Ω' Ω'') : Gr c h Ω Ω'' := by
  refine ⟨fun x a e => g'.1 x a (g.1 x a e), fun a ha => ?_⟩
  rcases g'.2 a ha with z | z
  · exact g.2 a z
  · by_cases hy : a ∈ c.Y Ω
    · exact .inl hy
    · refine .inr ?_
      cases e : h.get? a with
      | none => rfl
      | some o => obtain ⟨sl, e'⟩ := k.there e hy; rw [z] at e'; cases e'
theorem Gr.kp {c : Cx} {h h' h'' : Heap} {Ω Ω' : List (String × Addr)} {fs : List Addr} (g : Gr c h Ω Ω') (k : Kp fs (c.Y Ω) h h') (k' : Kp fs (c.Y Ω') h' h'') : Kp fs (c.Y Ω) h h'' := k.trans' k' fun a o e ha => by
  rcases g.2 a ha with z | z
  · exact z
  · rw [z] at e; cases e

noncomputable def FlR (P : Program × World) (E : List Addr) (h : Heap) : Fl → Flow → Prop
  | .next, .next => True
  | .cont, .cont => True
  | .brk, .brk => True
  | .ret d f, .ret v => R P (fun a => f = true → a ∉ E) h v d
  | _, _ => False
/-- a ValueError that was just made, on no traceback yet -/
structure Raw (h : Heap) (x : Addr) (m : Msg) (h' : Heap) : Prop where
  keeps : ∀ b o, h.get? b = some o → h'.get? b = some o
  new : h.get? x = none
  there : ∃ o vs t tk, h'.get? x = some o ∧ o.cls = .type "ValueError" ∧ o.data = .fields vs ∧ vs[0]? = some (.ref t) ∧ vs[1]? = some .none ∧ (m.2 = true → vs[2]? = some .none) ∧ h.get? t = none ∧ h'.TupAt t [.str m.1 tk]
  len : m.1.length ≤ sizeLine
/-- one that this very frame has noted -/
structure HeldX (l : List Env) (h : Heap) (x : Addr) (m : Msg) (h' : Heap) : Prop where
  fly : ∃ t tk L, (l.head?.bind (·.frame)) = some L ∧ Heap.HeldW (hideAll h (l.filterMap (·.frame))) l x (.type "ValueError") (.ref t) L h' ∧ h'.TupAt t [.str m.1 tk] ∧ (hideAll h (l.filterMap (·.frame))).get? t = none
  up : h.UpToSlots h'
  len : m.1.length ≤ sizeLine
  ctx : m.2 = true → ∃ o vs, h'.get? x = some o ∧ o.data = .fields vs ∧ vs[2]? = some .none
noncomputable def Lit (l : List Env) (h : Heap) (x : Addr) (m : Msg) (h' : Heap) : Prop := Fly l h x m h' ∨ Raw h x m h' ∨ HeldX l h x m h'
section
variable (P : Program × World) (b0 : Heap) (c : Cx) (E : List Addr) (Ω : List (String × Addr)) (s : Shared)
noncomputable def ExPost (Q : Flow → Shared → Prop) (p : Fl × Frm) : Prop := ∀ flow h' tk Ω', FlR P E h' p.1 flow → Kp c.fs (c.Y Ω) s.heap h' → Gr c s.heap Ω Ω' → StS P b0 c E p.2 Ω' h' → Q flow { s with heap := h', toks := tk }
structure Ground (h : Heap) : Prop where
  stay : b0.StaysIn h
  ff : h.FunFrames b0 c.stk
  fc : ∀ b ∈ c.fs, ∃ o, h.get? b = some o ∧ o.cls = .type "frame"
noncomputable def XPostS (Ex : Value → Shared → Prop) (m : Msg) : Prop := ∀ h₁ x h' tk, Kp c.fs (c.Y Ω) s.heap h₁ → Ground b0 c h₁ → Lit c.stk h₁ x m h' → Ex (.ref x) { s with heap := h', toks := tk }
end
section
variable {P : Program × World} {b0 : Heap} {c : Cx} {E : List Addr} {φ : Frm} {Ω Ω' : List (String × Addr)} {s : Shared} {h₁ : Heap} {tk₁ : Nat}
theorem St.ground {h : Heap} (st : St P b0 c E φ Ω h) : Ground b0 c h := ⟨st.stay, st.ff, st.fc⟩
theorem XPostS.now {Ex : Value → Shared → Prop} {m : Msg} (H : XPostS b0 c Ω s Ex m) (st : St P b0 c E φ Ω s.heap) : XPost c s Ex m := fun x h' tk f => H s.heap x h' tk .refl st.ground (.inl f)
/-- an exception before anything of our own has changed -/
noncomputable def XPost0 (c : Cx) (s : Shared) (Ex : Value → Shared → Prop) (m : Msg) : Prop := ∀ h₁ x h' tk, Kp c.fs [] s.heap h₁ → Lit c.stk h₁ x m h' → Ex (.ref x) { s with heap := h', toks := tk }
theorem XPost0.now {Ex : Value → Shared → Prop} {m : Msg} (H : XPost0 c s Ex m) : XPost c s Ex m := fun x h' tk f => H s.heap x h' tk .refl (.inl f)
theorem XPost0.step {Ex : Value → Shared → Prop} {m : Msg} (H : XPost0 c s Ex m) (k : Kp c.fs [] s.heap h₁) : XPost0 c { s with heap := h₁, toks := tk₁ } Ex m := fun h₂ x h' tk k' l => H h₂ x h' tk (k.trans k') l
theorem XPostS.low {Ex : Value → Shared → Prop} {m : Msg} (H : XPostS b0 c Ω s Ex m) (st : St P b0 c E φ Ω s.heap) : XPost0 c s Ex m := fun h₁ x h' tk k l => H h₁ x h' tk (k.weak fun _ z => nomatch z) (st.kp k).ground l
theorem XPostS.step {Ex : Value → Shared → Prop} {m : Msg} (H : XPostS b0 c Ω s Ex m) (k : Kp c.fs (c.Y Ω) s.heap h₁) (g : Gr c s.heap Ω Ω') : XPostS b0 c Ω' { s with heap := h₁, toks := tk₁ } Ex m :=
  fun h₂ x h' tk k₂ gr l => H h₂ x h' tk (g.kp k k₂) gr l
theorem ExPost.step {Q : Flow → Shared → Prop} {p : Fl × Frm} (H : ExPost P b0 c E Ω s Q p) (k : Kp c.fs (c.Y Ω) s.heap h₁) (g : Gr c s.heap Ω Ω') : ExPost P b0 c E Ω' { s with heap := h₁, toks := tk₁ } Q p :=
  fun fl h' tk Ω'' hf k' g' st => H fl h' tk Ω'' hf (g.kp k k') (g.trans k g') st
theorem StS.kp {h h' : Heap} (st : StS P b0 c E φ Ω h) (k : Kp c.fs [] h h') : StS P b0 c E φ Ω h' := ⟨st.st.kp k, st.nodup, st.dom, st.accE, st.apart⟩
end
section
variable (prog : Program) (w : World) (b0 : Heap)
structure Passes (c : Cx) (Ex : Value → Shared → Prop) : Prop where
  own : PassesOwn (model prog w) c.A c.env Ex
  mark : ∀ hd, PassesOwnAt (model prog w) (c.A.mark hd) c.A c.env Ex
noncomputable def SEx (r : Rec) (n : Nat) : Prop := ∀ (c : Cx) (E : List Addr) (φ : Frm) (Ω : List (String × Addr)) (s : Shared) (a : Stmt) (i : IS) (Q : Flow → Shared → Prop) (Ex : Value → Shared → Prop),
  c.Ok n → c.Fn → Passes prog w c Ex → StS (prog, w) b0 c E φ Ω s.heap → CS c.env.scope a i → G (r.ex φ i) (ExPost (prog, w) b0 c E Ω s Q) (XPostS b0 c Ω s Ex) → wpAny (model prog w) c.A (exec a c.env) Q Ex s
end

/-- a block -/
theorem blk_sound {prog : Program} {w : World} {b0 : Heap} {r : Rec} {n : Nat} {c : Cx} {E : List Addr} {Q : Flow → Shared → Prop} {Ex : Value → Shared → Prop} (hX : SEx prog w b0 r n) (ok : c.Ok n) (hf : c.Fn) (hp : Passes prog w c Ex)
    {as : List Stmt} {is : List IS} (hb : CB c.env.scope as is) : ∀ {φ : Frm} {Ω : List (String × Addr)} {s : Shared}, StS (prog, w) b0 c E φ Ω s.heap → G (blk r φ is) (ExPost (prog, w) b0 c E Ω s Q) (XPostS b0 c Ω s Ex) → wpAny (model prog w) c.A (execs as c.env) Q Ex s := by
  induction hb with
  | nil => exact fun st H => wpAny_execs_nil ((show ExPost (prog, w) b0 c E _ _ Q (.next, _) from H) .next _ _ _ trivial .refl .refl st)
  | cons ha _ ih =>
    intro φ Ω s st H
    refine wpAny_execs_cons (hX c E φ Ω s _ _ _ _ ok hf hp st ha ((G.bind (res := r.ex φ _) H).mono (fun p _ Hp flow h' tk Ω' hfl k g st' => ?_) fun _ _ X => X))
    obtain ⟨fl, φ'⟩ := p
    cases fl with
    | next =>
      cases flow <;> first | exact hfl.elim | skip
      exact ih (s := { s with heap := h', toks := tk }) st' (G.mono (res := blk r φ' _) Hp (fun _ _ Hq => Hq.step k g) fun _ _ X => X.step k g)
    | cont =>
      cases flow <;> first | exact hfl.elim | skip
      exact (show ExPost (prog, w) b0 c E Ω s Q (.cont, φ') from Hp) _ _ _ Ω' hfl k g st'
    | brk =>
      cases flow <;> first | exact hfl.elim | skip
      exact (show ExPost (prog, w) b0 c E Ω s Q (.brk, φ') from Hp) _ _ _ Ω' hfl k g st'
    | ret d f =>
      cases flow <;> first | exact hfl.elim | skip
      exact (show ExPost (prog, w) b0 c E Ω s Q (.ret d f, φ') from Hp) _ _ _ Ω' hfl k g st'
end Mine
end

section
set_option Elab.async false
namespace Mine
open PySem PySem.W PySem.Calls PyProof.Rows

theorem putName_cls (name : PySem.Str) (h : Int) (key v : Value) (o : Obj) : (o.putName name h key v).cls = o.cls := by
  obtain ⟨c, d, dt, sl⟩ := o
  cases dt with
  | dict es n =>
    dsimp only [Obj.putName]
    split <;> rfl
  | _ => rfl
theorem putName_alive' (name : PySem.Str) (h : Int) (key v : Value) (o : Obj) (es : Array DictEntry) (n : Nat) (hd : o.data = .dict es n) : (o.putName name h key v).isFreed = false := by
  obtain ⟨c, d, dt, sl⟩ := o
  subst hd
  dsimp only [Obj.putName]
  split <;> rfl
/-- what a write to a namespace does, to the letter -/
theorem nsSet_exact {M : Model} {Γ : Ctx} {E : Value → Pos → Shared → Prop} {p : Pos} {s : Shared} {a : Addr} {m : PySem.Str → Option Value} (hn : s.heap.Ns a m) (name : PySem.Str) (v : Value) : ∃ (hsh : Int) (key : Value), ∀ Q : Unit → Pos → Shared → Prop,
    Sem.wp M Γ (nsSet a name v) Q E p s ↔ Q () p { s with heap := s.heap.update a (Obj.putName name hsh key v), toks := s.toks + 1 } := by
  obtain ⟨o, es, ep, ho, hd, hk, hm⟩ := hn
  apply Exists.intro
  apply Exists.intro
  intro Q
  simp only [nsSet, strHash, Sem.wp_bind', Sem.wp_cmd_ask, Sem.wp_pure', Sem.wp_cmd_mkText]
  rw [Sem.wp_loadPart_of M Γ E p { s with toks := s.toks + 1 } (o := o) _ ho]
  have hany : es.any (·.refKey) = false := by
    rw [Array.any_eq_false']; intro e he; obtain ⟨n, t, h⟩ := hk e he; simp [DictEntry.refKey, h]
  simp only [hd, aRefKeyMayBeTheName_at, hany, Bool.and_false, Bool.false_eq_true, if_false, Sem.wp_cmd_updatePart, ho, Option.isSome_some, true_and]
  exact Iff.rfl
theorem store_local {M : Model} {A : Around} {E : Value → Shared → Prop} {s : Shared} {env : Env} {name : PySem.Str} {m : PySem.Str → Option Value} {v : Value} {Q : Unit → Shared → Prop} (hl : env.kindOf name = some .local) (hn : s.heap.Ns env.locals m) (hk : env.scope.kind = .function)
    (h : ∀ h', h'.Ns env.locals (fun x => if x = name then some v else m x) → Heap.SameBut env.locals s.heap h' → (∀ o, s.heap.get? env.locals = some o → ∃ o', h'.get? env.locals = some o' ∧ o'.cls = o.cls ∧ ∀ vs, o'.data ≠ .fields vs) → Q () { s with heap := h', toks := s.toks + 1 }) : wpAny M A (storeName env name v) Q E s := by
  rw [storeName_local hl (by rw [hk]; rfl)]
  intro Γ p hΓ
  obtain ⟨hsh, key, he⟩ := nsSet_exact (M := M) (Γ := Γ) (E := fun e _ s' => E e s') (p := p) hn name v
  refine (he _).mpr ?_
  have lib := Sem.wp_nsSet M Γ (fun e _ s' => E e s') p s hn name v (fun _ _ s' => s'.heap.Ns env.locals (fun x => if x = name then some v else m x) ∧ Heap.SameBut env.locals s.heap s'.heap) fun h' h1 h2 => ⟨h1, h2⟩
  rw [he] at lib
  obtain ⟨l1, l2⟩ := lib
  refine h _ l1 l2 fun o ho => ?_
  obtain ⟨o₀, es, ep, ho₀, hd, _⟩ := hn
  rw [ho] at ho₀; cases ho₀
  obtain ⟨o₁, es₁, ep₁, ho₁, hd₁, _⟩ := l1
  have e := Heap.get?_update_self (Obj.putName name hsh key v) ho (putName_alive' _ _ _ _ _ _ _ hd)
  refine ⟨_, e, putName_cls _ _ _ _ _, fun vs q => ?_⟩
  have ho₁' : (s.heap.update env.locals (Obj.putName name hsh key v)).get? env.locals = some o₁ := ho₁
  rw [e] at ho₁'; cases ho₁'
  rw [hd₁] at q; cases q
end Mine
end

section
set_option Elab.async false
namespace Mine
open PySem PySem.W PySem.Calls PyProof.Rows

/-- a name of the def's got the value -/
structure Put (c : Cx) (x : String) (mv : Option Value) (m cm : PySem.Str → Option Value) (h h' : Heap) : Prop where
  keep : Kp c.fs c.own h h'
  alive : ∀ b o, h.get? b = some o → ∃ o', h'.get? b = some o'
  frame : ∀ o, h.get? c.env.locals = some o → ∃ o', h'.get? c.env.locals = some o' ∧ o'.cls = o.cls ∧ ∀ vs, o'.data ≠ .fields vs
  loc : ∃ m' cm', h'.Ns c.env.locals m' ∧ (∀ n k, c.env.cells.lookup n = some k → h'.IsCell k (cm' n)) ∧ atName c m' cm' (nm x) = mv ∧ ∀ y, y ≠ nm x → atName c m' cm' y = atName c m cm y
theorem same_alive {a : Addr} {h h' : Heap} (hs : Heap.SameBut a h h') (ha : ∃ o, h'.get? a = some o) : ∀ b o, h.get? b = some o → ∃ o', h'.get? b = some o' := fun b o e => by
  by_cases z : b = a
  · rw [z]; exact ha
  · exact ⟨o, hs.extBut b o z e⟩
theorem nodup_snd {l : List (PySem.Str × Addr)} (hn : (l.map (·.2)).Nodup) {n n' : PySem.Str} {a : Addr} (h1 : (n, a) ∈ l) (h2 : (n', a) ∈ l) : n = n' := by
  induction l with
  | nil => cases h1
  | cons p l ih =>
    rw [List.map_cons, List.nodup_cons] at hn
    rcases List.mem_cons.mp h1 with e1 | h1 <;> rcases List.mem_cons.mp h2 with e2 | h2
    · rw [← e2] at e1; exact (Prod.mk.inj e1).1
    · exact absurd (List.mem_map.mpr ⟨(n', a), h2, by rw [← e1]⟩) hn.1
    · exact absurd (List.mem_map.mpr ⟨(n, a), h1, by rw [← e2]⟩) hn.1
    · exact ih hn.2 h1 h2
section
variable {prog : Program} {w : World} {b0 : Heap} {mg mb : PySem.Str → Option Value} {consts : String → Option V} {r : Rec} {n : Nat} {c : Cx} {E : List Addr} {φ : Frm} {Ω Ω' : List (String × Addr)} {s : Shared} {Q : Flow → Shared → Prop} {Ex : Value → Shared → Prop} {A : Around}

theorem store_sound {x : String} {v : Value} {m cm : PySem.Str → Option Value} {QU : Unit → Shared → Prop} (ok : c.Ok n) (nd : c.own.Nodup) (hn : LName c.env.scope x) (h1 : s.heap.Ns c.env.locals m) (h2 : ∀ n k, c.env.cells.lookup n = some k → s.heap.IsCell k (cm n))
    (H : ∀ h' tk, Put c x (some v) m cm s.heap h' → QU () { s with heap := h', toks := tk }) : wpAny (model prog w) A (storeName c.env (nm x) v) QU Ex s := by
  have ndl : c.env.locals ∉ c.env.cells.map (·.2) := (List.nodup_cons.mp nd).1
  have ndc : (c.env.cells.map (·.2)).Nodup := (List.nodup_cons.mp nd).2
  rcases hn.1 with hl | hl
  · refine store_local hl h1 ok.kind fun h' hn' hs' hcl => H h' _ ⟨fun b o e hb => .inl (hs'.extBut b o (fun z => hb (by rw [z]; exact .head _)) e), same_alive hs' (let ⟨o, _, _, e, _⟩ := hn'; ⟨o, e⟩), hcl, _, cm, hn', fun y k hk => ?_, ?_, fun y hy => ?_⟩
    · exact (h2 y k hk).sameBut hs' fun z => ndl (by rw [← z]; exact List.mem_map.mpr ⟨_, lookup_mem hk, rfl⟩)
    · unfold atName Env.kindOf; rw [hl]; simp
    · unfold atName
      split
      · exact if_neg hy
      · rfl
      · rfl
      · rfl
  · obtain ⟨k, hk⟩ := ok.cells _ hl
    have hLk : c.env.locals ≠ k := fun z => ndl (by rw [z]; exact List.mem_map.mpr ⟨_, lookup_mem hk, rfl⟩)
    refine wpAny_storeName_cell ok.kind hl hk (h2 _ _ hk) fun h' hc' hs' => H h' _ ⟨fun b o e hb => .inl (hs'.extBut b o (fun z => hb (by rw [z]; exact .tail _ (List.mem_map.mpr ⟨_, lookup_mem hk, rfl⟩))) e), same_alive hs' (let ⟨o, e, _⟩ := hc'; ⟨o, e⟩), (fun o e => ⟨o, hs'.extBut _ o hLk e, rfl, (let ⟨o', es, ep, e', hd, _⟩ := h1; by rw [e] at e'; cases e'; intro vs q; rw [hd] at q; cases q)⟩), m, (fun y => if y = nm x then some v else cm y), h1.sameBut hs' ?_, fun y k' hk' => ?_, ?_, fun y hy => ?_⟩
    · exact fun z => ndl (by rw [z]; exact List.mem_map.mpr ⟨_, lookup_mem hk, rfl⟩)
    · by_cases z : y = nm x
      · subst z
        rw [hk] at hk'; cases hk'
        simpa using hc'
      · have e : (fun y => if y = nm x then some v else cm y) y = cm y := if_neg z
        rw [e]
        exact (h2 y k' hk').sameBut hs' fun e => z (nodup_snd ndc (lookup_mem hk') (e ▸ lookup_mem hk))
    · unfold atName Env.kindOf; rw [hl]; simp
    · unfold atName
      split
      · rfl
      · exact if_neg hy
      · exact if_neg hy
      · rfl
theorem StS.own_nodup {P : Program × World} {h : Heap} (st : StS P b0 c E φ Ω h) : c.own.Nodup := (List.nodup_append.mp st.nodup).1
theorem str_lookup_mem {β : Type} {n : String} {a : β} {l : List (String × β)} (h : l.lookup n = some a) : (n, a) ∈ l := look_mem h
theorem StS.not_own {P : Program × World} {h : Heap} (st : StS P b0 c E φ Ω h) {x : String} {a : Addr} (ha : Ω.lookup x = some a) : a ∉ c.own := fun z =>
  (List.nodup_append.mp st.nodup).2.2 a z a (List.mem_map.mpr ⟨_, str_lookup_mem ha, rfl⟩) rfl
theorem own_Y {a : Addr} (h : a ∈ c.own) : a ∈ c.Y Ω := List.mem_append_left _ h
theorem omega_Y {x : String} {a : Addr} (h : Ω.lookup x = some a) : a ∈ c.Y Ω := List.mem_append_right _ (List.mem_map.mpr ⟨_, str_lookup_mem h, rfl⟩)

theorem ff_of {l : List Env} {h h' : Heap} (hf : h.FunFrames b0 l) (k : ∀ b ∈ l.filterMap (·.frame), ∀ o, h.get? b = some o → (∀ vs, o.data ≠ .fields vs) → ∃ o', h'.get? b = some o' ∧ ∀ vs, o'.data ≠ .fields vs) : h'.FunFrames b0 l := by
  induction l with
  | nil => trivial
  | cons e l ih =>
    obtain ⟨h1, ⟨L, o, h2, h3, h4, h5⟩, h6⟩ := hf
    obtain ⟨o', e', hd⟩ := k L (List.mem_filterMap.mpr ⟨e, .head _, h2⟩) o h4 h5
    refine ⟨h1, ⟨L, _, h2, h3, e', hd⟩, ih h6 fun b hb => k b ?_⟩
    obtain ⟨x, hx, hxb⟩ := List.mem_filterMap.mp hb
    exact List.mem_filterMap.mpr ⟨x, .tail _ hx, hxb⟩
theorem Put.pre {x : String} {v : Option Value} {m cm : PySem.Str → Option Value} {h h₁ h' : Heap} (pt : Put c x v m cm h₁ h') (k : Kp c.fs [] h h₁) : Put c x v m cm h h' where
  keep := (k.weak fun _ z => nomatch z).trans pt.keep
  alive := fun b o e => by obtain ⟨sl, e'⟩ := k.there e (by simp); exact pt.alive b _ e'
  frame := fun o e => by
    obtain ⟨sl, e'⟩ := k.there e (by simp)
    obtain ⟨o', e'', hr⟩ := pt.frame { o with slots := sl } e'
    exact ⟨o', e'', hr⟩
  loc := pt.loc
theorem Put.post {x : String} {v : Option Value} {m cm : PySem.Str → Option Value} {h h₁ h' : Heap} {C : Addr} (pt : Put c x v m cm h h₁) (hs : Heap.SameBut C h₁ h') (hC : h.get? C = none) (ho : C ∉ c.own) : Put c x v m cm h h' where
  keep := pt.keep.trans' (Y' := [C]) (fun b o e hb => .inl (hs.extBut b o (fun z => hb (by rw [z]; exact .head _)) e)) fun b o e hb => by rw [List.mem_singleton] at hb; rw [hb, hC] at e; cases e
  alive := fun b o e => by
    obtain ⟨o', e'⟩ := pt.alive b o e
    exact ⟨o', hs.extBut b o' (fun z => by rw [z, hC] at e; cases e) e'⟩
  frame := fun o e => by
    obtain ⟨o', e', r⟩ := pt.frame o e
    exact ⟨o', hs.extBut _ o' (fun z => ho (by rw [← z]; exact .head _)) e', r⟩
  loc := by
    obtain ⟨m', cm', l1, l2, l3⟩ := pt.loc
    exact ⟨m', cm', l1.sameBut hs (fun z => ho (by rw [← z]; exact .head _)), fun n k hk => (l2 n k hk).sameBut hs fun z => ho (by rw [← z]; exact .tail _ (List.mem_map.mpr ⟨_, lookup_mem hk, rfl⟩)), l3⟩
theorem StS.put {P : Program × World} {x : String} {v : Option Value} {sl : Slot} {h h' : Heap} {m cm : PySem.Str → Option Value} (st : StS P b0 c E φ Ω h)
    (h3 : ∀ x sl, φ.lookup x = some sl → LName c.env.scope x → SlotAt P E (c.Y Ω) Ω h (atName c m cm (nm x)) x sl)
    (pt : Put c x v m cm h h') (hΩ : ∀ y, y ≠ x → Ω'.lookup y = Ω.lookup y) (hY : ∀ b ∈ c.Y Ω', b ∈ c.Y Ω ∨ (h.get? b = none ∧ ∃ o, h'.get? b = some o))
    (hnd : (c.own ++ Ω'.map (·.2)).Nodup) (hx : SlotAt P E (c.Y Ω') Ω' h' v x sl) (hacc : ∀ ds a, sl = .acc ds → Ω'.lookup x = some a → a ∉ E) : StS P b0 c E (upd x sl φ) Ω' h' := by
  obtain ⟨m', cm', l1, l2, l3, l4⟩ := pt.loc
  have kk := pt.keep
  have up : UpAt (fun a => a ∉ c.Y Ω) h h' := kk.up fun b hb z => hb (own_Y z)
  have nY : ∀ b o, h.get? b = some o → b ∉ c.Y Ω → b ∉ c.Y Ω' := fun b o e hb z => by
    rcases hY b z with z | ⟨z, _⟩
    · exact hb z
    · rw [z] at e; cases e
  have fsF : ∀ b ∈ c.fs, ∀ o, h.get? b = some o → (∀ vs, o.data ≠ .fields vs) → ∃ o', h'.get? b = some o' ∧ o'.cls = o.cls ∧ ∀ vs, o'.data ≠ .fields vs := fun b hb o e hd => by
    by_cases z : b = c.env.locals
    · subst z; exact pt.frame o e
    · obtain ⟨sl, e'⟩ := kk.there e (fun q => st.apart b hb z (own_Y q))
      exact ⟨_, e', rfl, hd⟩
  refine ⟨⟨fun b o e => ?_, ?_, ?_, ⟨m', cm', l1, l2, fun y sl' hl hy => ?_⟩, fun a ha => ?_, fun a ha => ?_⟩, hnd, fun y hy => ?_, fun y ds a hl ha => ?_, fun b hb hl z => ?_⟩
  · rcases kk b o (st.st.stay b o e) (fun z => by rw [st.st.off b (.inr (own_Y z))] at e; cases e) with e' | ⟨hm, _⟩
    · exact e'
    · have := (st.st.ff.mem hm).1; rw [e] at this; cases this
  · exact ff_of st.st.ff fun b hb o e hd => let ⟨o', e', _, hd'⟩ := fsF b hb o e hd; ⟨o', e', hd'⟩
  · intro b hb
    obtain ⟨o, e, hc⟩ := st.st.fc b hb
    obtain ⟨_, o₂, e₂, hd⟩ := st.st.ff.mem hb
    rw [e] at e₂; cases e₂
    obtain ⟨o', e', hc', _⟩ := fsF b hb o e hd
    exact ⟨o', e', hc'.trans hc⟩
  · rw [upd_lookup] at hl
    by_cases e : y = x
    · subst e
      rw [if_pos rfl] at hl; cases hl
      rw [l3]; exact hx
    · rw [if_neg e] at hl
      rw [l4 _ fun z => e (nm_inj z)]
      have q := h3 y sl' hl hy
      cases sl' with
      | val d f =>
        obtain ⟨v, ev, rv⟩ := q
        exact ⟨v, ev, rv.mono (fun b o hb e hh => up b o hb.2 e hh) fun b o hb e => ⟨hb.1, nY b o e hb.2⟩⟩
      | acc ds =>
        obtain ⟨a, vs, q1, q2, q4, q5⟩ := q
        exact ⟨a, vs, (hΩ y e).trans q1, q2, q4.up fun o e hc => kk.same e (st.not_own q1) hc, q5.mono (fun b o hb e hh => up b o hb.2 e hh) fun b o hb e => ⟨hb.1, nY b o e hb.2⟩⟩
      | tab kvs =>
        obtain ⟨a, q1, q2, ps, ds, t1, t2, t3, t4, t5⟩ := q
        exact ⟨a, (hΩ y e).trans q1, q2, ps, ds, dict_up t1 (fun o e hc => kk.same e (st.not_own q1) hc), t2, t3.mono (fun b o hb e hh => up b o hb.2 e hh) (fun b o hb e => ⟨hb.1, nY b o e hb.2⟩), t4, t5⟩
      | gone => trivial
  · have al : ∀ a, a ∈ E ∨ a ∈ c.Y Ω → ∃ o, h'.get? a = some o := fun a ha => by
      obtain ⟨o, e⟩ := st.st.alive a ha
      exact pt.alive a o e
    rcases ha with ha | ha
    · exact al a (.inl ha)
    · rcases hY a ha with z | ⟨_, z⟩
      · exact al a (.inr z)
      · exact z
  · rcases ha with ha | ha
    · exact st.st.off a (.inl ha)
    · rcases hY a ha with z | ⟨z, _⟩
      · exact st.st.off a (.inr z)
      · cases e : b0.get? a with
        | none => rfl
        | some o => rw [st.st.stay a o e] at z; cases z
  · rw [upd_lookup] at hy
    by_cases e : y = x
    · rw [if_pos e] at hy; cases hy
    · rw [if_neg e] at hy; rw [hΩ y e]; exact st.dom y hy
  · rw [upd_lookup] at hl
    by_cases e : y = x
    · subst e; rw [if_pos rfl] at hl; cases hl; exact hacc ds a rfl ha
    · rw [if_neg e] at hl; rw [hΩ y e] at ha; exact st.accE y ds a hl ha
  · rcases hY b z with z | ⟨z, _⟩
    · exact st.apart b hb hl z
    · obtain ⟨o, e, _⟩ := st.st.fc b hb; rw [z] at e; cases e
end
end Mine
end

section
set_option Elab.async false
namespace Mine
open PySem PySem.W PySem.Calls PyProof.Rows

section
variable {prog : Program} {w : World} {b0 : Heap} {mg mb : PySem.Str → Option Value} {consts : String → Option V} {r : Rec} {n : Nat} {c : Cx} {E : List Addr} {φ : Frm} {Ω Ω' : List (String × Addr)} {s : Shared} {Q : Flow → Shared → Prop} {Ex : Value → Shared → Prop} {A : Around}

theorem Put.kp {x : String} {v : Option Value} {m cm : PySem.Str → Option Value} {h h' : Heap} (pt : Put c x v m cm h h') : Kp c.fs (c.Y Ω) h h' := pt.keep.weak fun _ z => own_Y z
/-- a name gets a frozen datum -/
theorem put_val {x : String} {v : Value} {d : V} {h₁ : Heap} {tk₁ : Nat} (ok : c.Ok n) (st : StS (prog, w) b0 c E φ Ω s.heap) (hn : LName c.env.scope x) (k₁ : Kp c.fs [] s.heap h₁) (rv : R (prog, w) (fun a => a ∉ E ∧ a ∉ c.Y Ω) h₁ v d) {QU : Unit → Shared → Prop}
    (H : ∀ h' tk, Kp c.fs (c.Y Ω) s.heap h' → StS (prog, w) b0 c E (upd x (.val d true) φ) Ω h' → QU () { s with heap := h', toks := tk }) : wpAny (model prog w) A (storeName c.env (nm x) v) QU Ex { s with heap := h₁, toks := tk₁ } := by
  have st₁ := st.kp k₁
  obtain ⟨m, cm, h1, h2, h3⟩ := st₁.st.loc
  refine store_sound (s := { s with heap := h₁, toks := tk₁ }) ok st.own_nodup hn h1 h2 fun h' tk pt => H h' tk ((k₁.weak fun _ z => nomatch z).trans pt.kp) ?_
  exact st₁.put h3 pt (fun _ _ => rfl) (fun b hb => .inl hb) st.nodup ⟨v, rfl, rv.mono (pt.keep.up fun b hb z => hb.2 (own_Y z)) fun _ _ x _ => ⟨fun _ => x.1, x.2⟩⟩ fun ds a e => nomatch e
theorem ex_assign {x : String} {xp p : Pos} {v : Expr} {e : IE} (hE : SEv prog w b0 r n) (ok : c.Ok n) (st : StS (prog, w) b0 c E φ Ω s.heap) (hn : LName c.env.scope x) (hv : CE c.env.scope v e) (hc : isComp e = false)
    (H : G (exI r φ (.assign x e)) (ExPost (prog, w) b0 c E Ω s Q) (XPostS b0 c Ω s Ex)) : wpAny (model prog w) c.A (exec (.Assign [.Name (nm x) xp] v p) c.env) Q Ex s := by
  dsimp only [exI] at H
  refine wpAny_Assign_Name (hE c E φ Ω s _ _ _ _ ok st.st hv (H.bind.mono (fun u _ Hu v' h₁ tk₁ k₁ r₁ => ?_) fun _ _ X => X.now st.st)) (hv.swN hc)
  obtain ⟨rv, Hu⟩ := Hu.bind.fz r₁
  exact put_val ok st hn k₁ rv fun h' tk k st' => Hu .next h' tk Ω trivial k .refl st'
theorem ex_assignComp {y x : String} {yp px cp p : Pos} {elt iter : Expr} {ifs : List Expr} {cs : Scope} {ei : IE} {it : It} {cond : Option TE} (S : Stat (prog, w) b0 mg mb consts) (hE : SEv prog w b0 r n) (hT : STs prog w b0 r n)
    (ok : c.Ok n) (st : StS (prog, w) b0 c E φ Ω s.heap) (hl : c.env.scope.names.lookup (nm y) = some .local) (hd : (nm y == ("__debug__" : PySem.Str)) = false) (h0 : y ≠ ".0") (hline : (yp.line == cp.line) = true)
    (hnot : (cs.names.any fun z => z.1 == nm y && (z.2 == .local || z.2 == .cell)) = false) (hsc : CompSc cs c.env.scope x) (hi : CI c.env.scope iter it) (he : CE (relab cs c.env.scope) elt ei) (hc : CIf (relab cs c.env.scope) ifs cond)
    (H : G ((evI consts r φ (.comp ei x it cond)).bind fun u => (fzV u).bind fun d => .ok (.next, upd y (.val d true) φ)) (ExPost (prog, w) b0 c E Ω s Q) (XPostS b0 c Ω s Ex)) :
    wpAny (model prog w) c.A (exec (.Assign [.Name (nm y) yp] (.ListComp elt [⟨.Name (nm x) px, iter, ifs, 0⟩] cs cp) p) c.env) Q Ex s := by
  have hsw : swapsWith (.ListComp elt [⟨.Name (nm x) px, iter, ifs, 0⟩] cs cp) (some (.Name (nm y) yp)) p.line c.env = pure true := by
    unfold swapsWith
    have e1 : (c.env.blockKind == ScopeKind.function) = true := by unfold Env.blockKind; rw [ok.kind]; rfl
    have e2 : (c.env.kindOf (nm y) == some NameKind.local) = true := by unfold Env.kindOf; rw [hl]; rfl
    show (pure (c.env.blockKind == .function && c.env.kindOf (nm y) == some .local && yp.line == cp.line && !(cs.names.any fun (n, k) => n == nm y && (k == .local || k == .cell))) : Sem Bool) = pure true
    rw [e1, e2, hline, hnot]; rfl
  rw [exec_Assign_Name_used _ _ _ _ hsw]
  refine wpAny_bind (wpAny_standAt (wpAny_bind ?_))
  show wpAny _ c.A (do let _ ← comprehension (.ListComp elt [⟨.Name (nm x) px, iter, ifs, 0⟩] cs cp) cs c.env _ (newList []) false (eval iter c.env) (some (assign (.Name (nm y) yp) c.env))) _ _ s
  refine wpAny_bind (wpAny_mono (wpAny_comprehension_free (use := some (assign (.Name (nm y) yp) c.env)) (Q := fun _ s' => Q .next s') rfl (fun v => hi.noSet _ v) (clos_pure ok hsc) hsc.kind hsc.names
    (comp_run S hE hT ok hsc st.st hi he hc (RR := fun acc C => compPost (model prog w) c.A Ex (some (assign (.Name (nm y) yp) c.env)) (fun _ s' => Q .next s') acc C) (X := XPostS b0 c Ω s Ex) (fun _ X => X.now st.st) (H.bind.mono (fun u hu Hu => ?_) fun _ _ X => X))) (fun _ s' hq => wpAny_pure (wpAny_pure hq)) fun _ _ e => e)
  obtain ⟨es, rfl⟩ := comp_list hu
  have Hu' : ExPost (prog, w) b0 c E Ω s Q (.next, upd y (.val (.list es) true) φ) := Hu
  refine ⟨es, rfl, fun D C h' tk m' hDC hD hC hn rv kp => ?_⟩
  show wpAny _ c.A (assign (.Name (nm y) yp) c.env (.ref D)) _ _ _
  have hCown : C ∉ c.own := fun z => by obtain ⟨o, e⟩ := st.st.alive C (.inr (own_Y z)); rw [hC] at e; cases e
  obtain ⟨m, cm, h1, h2, h3⟩ := st.st.loc
  have cells' : ∀ n k, c.env.cells.lookup n = some k → h'.IsCell k (cm n) := fun n k e => by
    obtain ⟨o, e', hd⟩ := h2 n k e
    obtain ⟨sl, e''⟩ := kp.there e' (by simp)
    exact ⟨_, e'', hd⟩
  refine wpAny_assign_Name (store_sound (s := { s with heap := h', toks := tk }) ok st.own_nodup ⟨.inl hl, hd, h0⟩ (kp.slots.ns h1) cells' fun h'' tk' pt => ?_)
  have hnf : ∀ o, h'.get? C = some o → h''.get? C = some o := fun o e => pt.keep.off e hCown fun z => by
    obtain ⟨o, e, _⟩ := st.st.fc C z; rw [hC] at e; cases e
  refine ⟨m', hn.at' hnf, fun h₃ hs₃ => ?_⟩
  have pt₃ := (pt.pre kp).post hs₃ hC hCown
  have rv₃ : R (prog, w) (fun a => (true = true → a ∉ E) ∧ a ∉ c.Y Ω) h₃ (.ref D) (.list es) :=
    (rv.mono (pt.keep.up fun b hb z => hb.2.1 (own_Y z)) fun _ _ x _ => x).mono (fun b o hb e _ => hs₃.extBut b o hb.2.2 e) fun _ _ x _ => ⟨fun _ => x.1, x.2.1⟩
  exact Hu' .next h₃ _ Ω trivial pt₃.kp .refl (st.put h3 pt₃ (fun _ _ => rfl) (fun b hb => .inl hb) st.nodup ⟨.ref D, rfl, rv₃⟩ fun ds a e => nomatch e)
end
end Mine
end

section
set_option Elab.async false
namespace Mine
open PySem PySem.W PySem.Calls PyProof.Rows

noncomputable def frz : Slot → Slot
  | .acc ds => .val (.list ds) true
  | sl => sl
theorem freeze_lookup {x : String} {φ : Frm} : (freeze φ).lookup x = (φ.lookup x).map frz := by
  induction φ with
  | nil => rfl
  | cons p r ih =>
    obtain ⟨y, sl⟩ := p
    cases sl <;> (show List.lookup x ((y, _) :: freeze r) = _; rw [List.lookup_cons, List.lookup_cons, ih]; split <;> rfl)
noncomputable def isAcc (φ : Frm) (x : String) : Bool := match φ.lookup x with
  | some (.acc _) => true
  | _ => false
theorem lookup_filter {x : String} (p : String → Bool) {l : List (String × Addr)} : (l.filter fun q => p q.1).lookup x = if p x then l.lookup x else none := by
  induction l with
  | nil => cases p x <;> rfl
  | cons q l ih =>
    obtain ⟨y, a⟩ := q
    rw [List.filter_cons]
    by_cases hy : p y = true
    · rw [if_pos hy, List.lookup_cons, List.lookup_cons, ih]
      by_cases e : x = y
      · subst e; simp [hy]
      · rw [beq_eq_false_iff_ne.mpr e]
    · rw [if_neg hy, ih, List.lookup_cons]
      by_cases e : x = y
      · subst e; simp [hy]
      · rw [beq_eq_false_iff_ne.mpr e]
theorem nodup_snd' {l : List (String × Addr)} (hn : (l.map (·.2)).Nodup) {n n' : String} {a : Addr} (h1 : (n, a) ∈ l) (h2 : (n', a) ∈ l) : n = n' := by
  induction l with
  | nil => cases h1
  | cons p l ih =>
    rw [List.map_cons, List.nodup_cons] at hn
    rcases List.mem_cons.mp h1 with e1 | h1 <;> rcases List.mem_cons.mp h2 with e2 | h2
    · rw [← e2] at e1; exact (Prod.mk.inj e1).1
    · exact absurd (List.mem_map.mpr ⟨(n', a), h2, by rw [← e1]⟩) hn.1
    · exact absurd (List.mem_map.mpr ⟨(n, a), h1, by rw [← e2]⟩) hn.1
    · exact ih hn.2 h1 h2
section
variable {prog : Program} {w : World} {b0 : Heap} {mg mb : PySem.Str → Option Value} {consts : String → Option V} {r : Rec} {n : Nat} {c : Cx} {E : List Addr} {φ : Frm} {Ω Ω' : List (String × Addr)} {s : Shared} {Q : Flow → Shared → Prop} {Ex : Value → Shared → Prop} {A : Around}

/-- at the end of a def its own lists are data like any other -/
theorem StS.freeze {P : Program × World} {h : Heap} (st : StS P b0 c E φ Ω h) : ∃ Ω', St P b0 c E (freeze φ) Ω' h ∧ ∀ a ∈ c.Y Ω', a ∈ c.Y Ω := by
  refine ⟨Ω.filter fun q => !isAcc φ q.1, ?_, ?_⟩
  · have hsub : ∀ a ∈ c.Y (Ω.filter fun q => !isAcc φ q.1), a ∈ c.Y Ω := fun a ha => by
      rcases List.mem_append.mp ha with ha | ha
      · exact List.mem_append_left _ ha
      · obtain ⟨p, hp, rfl⟩ := List.mem_map.mp ha
        exact List.mem_append_right _ (List.mem_map.mpr ⟨p, (List.mem_filter.mp hp).1, rfl⟩)
    obtain ⟨m, cm, h1, h2, h3⟩ := st.st.loc
    refine ⟨st.st.stay, st.st.ff, st.st.fc, ⟨m, cm, h1, h2, fun x sl hl hn => ?_⟩, fun a ha => st.st.alive a (ha.imp_right (hsub a)), fun a ha => st.st.off a (ha.imp_right (hsub a))⟩
    rw [freeze_lookup] at hl
    cases hq : φ.lookup x with
    | none => rw [hq] at hl; cases hl
    | some sl₀ =>
      rw [hq] at hl
      cases hl
      have q := h3 x sl₀ hq hn
      cases sl₀ with
      | val d f =>
        obtain ⟨v, e, rv⟩ := q
        exact ⟨v, e, rv.weak fun a ha => ⟨ha.1, fun z => ha.2 (hsub a z)⟩⟩
      | acc ds =>
        obtain ⟨a, vs, q1, q2, q4, q5⟩ := q
        refine ⟨.ref a, q2, .of_list ⟨fun _ => st.accE x ds a hq q1, fun z => ?_⟩ q4.list (q5.weak fun b hb => ⟨fun _ => hb.1, fun z => hb.2 (hsub b z)⟩)⟩
        rcases List.mem_append.mp z with z | z
        · exact st.not_own q1 z
        · obtain ⟨⟨y, a'⟩, hp, rfl⟩ := List.mem_map.mp z
          obtain ⟨hp1, hp2⟩ := List.mem_filter.mp hp
          have : y = x := nodup_snd' (List.nodup_append.mp st.nodup).2.1 hp1 (str_lookup_mem q1)
          subst this
          unfold isAcc at hp2
          rw [hq] at hp2
          cases hp2
      | tab kvs =>
        obtain ⟨a, q1, q2, T⟩ := q
        refine ⟨a, ?_, q2, T.up (fun o e _ => e) (fun b o _ e _ => e) fun b hb => ⟨hb.1, fun z => hb.2 (hsub b z)⟩⟩
        rw [lookup_filter fun y => !isAcc φ y]
        have : isAcc φ x = false := by unfold isAcc; rw [hq]
        rw [this]; exact q1
      | gone => trivial
  · intro a ha
    rcases List.mem_append.mp ha with ha | ha
    · exact List.mem_append_left _ ha
    · obtain ⟨p, hp, rfl⟩ := List.mem_map.mp ha
      exact List.mem_append_right _ (List.mem_map.mpr ⟨p, (List.mem_filter.mp hp).1, rfl⟩)
theorem ex_ret {e : Expr} {i : IE} {p : Pos} (hE : SEv prog w b0 r n) (ok : c.Ok n) (st : StS (prog, w) b0 c E φ Ω s.heap) (he : CE c.env.scope e i) (H : G (exI r φ (.ret i)) (ExPost (prog, w) b0 c E Ω s Q) (XPostS b0 c Ω s Ex)) :
    wpAny (model prog w) c.A (exec (.Return (some e) p) c.env) Q Ex s := by
  dsimp only [exI] at H
  obtain ⟨Ω', stf, _⟩ := st.freeze
  refine wpAny_Return_some (hE c E (Mine.freeze φ) Ω' s _ _ _ _ ok stf he (H.bind.mono (fun u _ Hu v h₁ tk₁ k₁ r₁ => ?_) fun _ _ X => X.now st.st))
  exact (show ExPost (prog, w) b0 c E Ω s Q (.ret u.1 u.2, φ) from Hu) (.ret v) h₁ tk₁ Ω (r₁.weak fun a x hf => (x hf).1) (k₁.weak fun _ z => nomatch z) .refl (st.kp k₁)
theorem ex_ite {t : Expr} {a b : List Stmt} {p : Pos} {ti : TE} {ai bi : List IS} (hT : STs prog w b0 r n) (hX : SEx prog w b0 r n) (ok : c.Ok n) (hf : c.Fn) (hp : Passes prog w c Ex) (st : StS (prog, w) b0 c E φ Ω s.heap) (ht : CT c.env.scope t ti) (ha : CB c.env.scope a ai) (hb : CB c.env.scope b bi)
    (H : G (exI r φ (.ite ti ai bi)) (ExPost (prog, w) b0 c E Ω s Q) (XPostS b0 c Ω s Ex)) : wpAny (model prog w) c.A (exec (.If t a b p) c.env) Q Ex s := by
  dsimp only [exI] at H
  refine wpAny_If (hT c E φ Ω s _ _ _ _ ok st.st ht (H.bind.mono (fun q _ Hq h₁ tk₁ k₁ => ?_) fun _ _ X => X.now st.st))
  have kw : Kp c.fs (c.Y Ω) s.heap h₁ := k₁.weak fun _ z => nomatch z
  cases q with
  | true => exact blk_sound (s := { s with heap := h₁, toks := tk₁ }) hX ok hf hp ha (st.kp k₁) (G.mono (show G (blk r φ ai) (ExPost (prog, w) b0 c E Ω s Q) (XPostS b0 c Ω s Ex) from Hq) (fun _ _ Hu => Hu.step kw .refl) fun _ _ X => X.step kw .refl)
  | false => exact blk_sound (s := { s with heap := h₁, toks := tk₁ }) hX ok hf hp hb (st.kp k₁) (G.mono (show G (blk r φ bi) (ExPost (prog, w) b0 c E Ω s Q) (XPostS b0 c Ω s Ex) from Hq) (fun _ _ Hu => Hu.step kw .refl) fun _ _ X => X.step kw .refl)
theorem ex_cont {p : Pos} (st : StS (prog, w) b0 c E φ Ω s.heap) (H : G (exI r φ .cont) (ExPost (prog, w) b0 c E Ω s Q) (XPostS b0 c Ω s Ex)) : wpAny (model prog w) c.A (exec (.Continue p) c.env) Q Ex s :=
  wpAny_Continue ((show ExPost (prog, w) b0 c E Ω s Q (.cont, φ) from H) .cont s.heap s.toks Ω trivial .refl .refl st)
theorem ex_brk {p : Pos} (st : StS (prog, w) b0 c E φ Ω s.heap) (H : G (exI r φ .brk) (ExPost (prog, w) b0 c E Ω s Q) (XPostS b0 c Ω s Ex)) : wpAny (model prog w) c.A (exec (.Break p) c.env) Q Ex s :=
  wpAny_Break ((show ExPost (prog, w) b0 c E Ω s Q (.brk, φ) from H) .brk s.heap s.toks Ω trivial .refl .refl st)

/-- a name gets a new object of our own -/
theorem put_new {x : String} {o : Obj} {sl : Slot} {tk₁ : Nat} (ok : c.Ok n) (st : StS (prog, w) b0 c E φ Ω s.heap) (hn : LName c.env.scope x) (hx : φ.lookup x = none) (ho : o.cls ≠ .type "frame") (hfr : o.isFreed = false)
    (hsl : ∀ h', h'.get? s.heap.objs.size = some o → SlotAt (prog, w) E (c.Y ((x, s.heap.objs.size) :: Ω)) ((x, s.heap.objs.size) :: Ω) h' (some (.ref s.heap.objs.size)) x sl)
    (H : ExPost (prog, w) b0 c E Ω s Q (.next, upd x sl φ)) : wpAny (model prog w) A (storeName c.env (nm x) (.ref s.heap.objs.size)) (fun _ => Q .next) Ex { s with heap := s.heap.push o, toks := tk₁ } := by
  obtain ⟨m, cm, h1, h2, h3⟩ := st.st.loc
  have hΩx : Ω.lookup x = none := st.dom x hx
  have fr := st.st.fresh (Nat.le_refl _)
  have cells' : ∀ n k, c.env.cells.lookup n = some k → (s.heap.push o).IsCell k (cm n) := fun n k e => by
    obtain ⟨ob, e', hd⟩ := h2 n k e
    exact ⟨_, Heap.get?_push_of_some _ e', hd⟩
  refine store_sound (s := { s with heap := s.heap.push o, toks := tk₁ }) ok st.own_nodup hn ((push_kp (fs := []) (Y := []) o).slots.ns h1) cells' fun h' tk pt => ?_
  have pt₀ := pt.pre (push_kp o)
  have ha' : h'.get? s.heap.objs.size = some o := pt.keep.same (Heap.get?_push_size _ hfr) (fun z => fr.2 (own_Y z)) ho
  have hY : ∀ b ∈ c.Y ((x, s.heap.objs.size) :: Ω), b ∈ c.Y Ω ∨ (s.heap.get? b = none ∧ ∃ o, h'.get? b = some o) := fun b hb => by
    rcases List.mem_append.mp hb with hb | hb
    · exact .inl (List.mem_append_left _ hb)
    · rw [List.map_cons] at hb
      rcases List.mem_cons.mp hb with rfl | hb
      · exact .inr ⟨gone_of_le (Nat.le_refl _), _, ha'⟩
      · exact .inl (List.mem_append_right _ hb)
  have hΩ : ∀ y, y ≠ x → ((x, s.heap.objs.size) :: Ω).lookup y = Ω.lookup y := fun y hy => by rw [List.lookup_cons, beq_eq_false_iff_ne.mpr hy]
  have hnd : (c.own ++ ((x, s.heap.objs.size) :: Ω).map (·.2)).Nodup := by
    have := st.nodup
    rw [List.nodup_append] at this ⊢
    refine ⟨this.1, ?_, fun a ha b hb => ?_⟩
    · rw [List.map_cons, List.nodup_cons]
      exact ⟨fun z => fr.2 (List.mem_append_right _ z), this.2.1⟩
    · rw [List.map_cons] at hb
      rcases List.mem_cons.mp hb with rfl | hb
      · rintro rfl; exact fr.2 (own_Y ha)
      · exact this.2.2 a ha b hb
  have stf := st.put h3 pt₀ hΩ hY hnd (hsl h' ha') fun ds a _ ha => by
    rw [List.lookup_cons, beq_self_eq_true] at ha
    cases ha; exact fr.1
  refine H .next h' tk _ trivial pt₀.kp ⟨fun y a e => ?_, fun a ha => ?_⟩ stf
  · by_cases z : y = x
    · subst z; rw [hΩx] at e; cases e
    · rw [hΩ y z]; exact e
  · rcases hY a ha with z | ⟨z, _⟩
    · exact .inl z
    · exact .inr z
theorem ex_newAcc {x : String} {xp lp p : Pos} (ok : c.Ok n) (st : StS (prog, w) b0 c E φ Ω s.heap) (hn : LName c.env.scope x) (H : G (exI r φ (.newAcc x)) (ExPost (prog, w) b0 c E Ω s Q) (XPostS b0 c Ω s Ex)) :
    wpAny (model prog w) c.A (exec (.Assign [.Name (nm x) xp] (.List [] lp) p) c.env) Q Ex s := by
  dsimp only [exI] at H
  cases hx : φ.lookup x with
  | some sl => rw [hx] at H; exact H.elim
  | none =>
    rw [hx] at H
    refine wpAny_Assign_Name (List_ (args_nil (wpAny_newList (put_new (sl := .acc []) ok st hn hx (noFrame rfl (by decide)) rfl (fun h' e => ⟨_, [], by rw [List.lookup_cons, beq_self_eq_true], rfl, ⟨⟨_, e⟩, Nat.zero_le _⟩, .nil⟩) H) (Nat.zero_le _))))
theorem ex_newTab {x : String} {xp dp p : Pos} (S : Stat (prog, w) b0 mg mb consts) (ok : c.Ok n) (st : StS (prog, w) b0 c E φ Ω s.heap) (hn : LName c.env.scope x) (H : G (exI r φ (.newTab x)) (ExPost (prog, w) b0 c E Ω s Q) (XPostS b0 c Ω s Ex)) :
    wpAny (model prog w) c.A (exec (.Assign [.Name (nm x) xp] (.Dict [] [] dp) p) c.env) Q Ex s := by
  dsimp only [exI] at H
  cases hx : φ.lookup x with
  | some sl => rw [hx] at H; exact H.elim
  | none =>
    rw [hx] at H
    have hlow : (s.heap.objs.size == sysModules) = false := by
      exact beq_eq_false_iff_ne.mpr (Nat.ne_of_gt (modules_low (S.nolimit.keeps st.st.stay)))
    refine wpAny_Assign_Name (wpAny_Dict_empty (put_new (sl := .tab []) ok st hn hx (noFrame rfl (by decide)) rfl (fun h' e => ⟨_, by rw [List.lookup_cons, beq_self_eq_true], rfl, [], [], ⟨_, #[], 0, e, ⟨rfl, rfl, rfl⟩, rfl, fun _ he => by simp at he, Pairs.nil, List.nodup_nil⟩, hlow, .nil, ⟨Nat.zero_le _, fun p hp => nomatch hp⟩, rfl⟩) H))
theorem ex_raise0 {np cp p : Pos} {e : Expr} {i : IE} (S : Stat (prog, w) b0 mg mb consts) (hE : SEv prog w b0 r n) (ok : c.Ok n) (st : StS (prog, w) b0 c E φ Ω s.heap) (hn : GName c.env.scope "ValueError") (he : CE c.env.scope e i)
    (H : G (raiseI r φ i) (ExPost (prog, w) b0 c E Ω s Q) (XPost0 c s Ex)) : wpAny (model prog w) c.A (exec (.Raise (some (.Call (.Name (nm "ValueError") np) [e] [] cp)) none p) c.env) Q Ex s := by
  dsimp only [raiseI] at H
  refine wpAny_Raise_call F.excCall_ValueError F.excRaise_ValueError ok.handled ((CEs.add he .nil).plain _ _) (ld_boot S ok st.st hn (S.free _ (by decide)) boot_ve (by decide) ⟨rfl, ?_⟩)
  rw [he.star]
  refine evalArgs_plain ?_
  show wpAny _ _ (spliced [(false, eval e c.env)]) _ _ _
  refine spliced_cons ?_
  refine hE c E φ Ω s _ _ _ _ ok st.st he (H.bind.mono (fun u _ Hu v h₁ tk₁ k₁ r₁ => spliced_nil ?_) fun _ _ X => X.now)
  obtain ⟨x, t, rfl, hx, Hu⟩ := Hu.rStr r₁
  refine ⟨rfl, by rw [sizeLine_eq]; exact Nat.le_of_ble_eq_true rfl, fun h' e hm => ?_⟩
  obtain ⟨ta, e1, e2, e3⟩ := hm.there
  exact (show XPost0 c s Ex (x, true) from Hu) h₁ e h' tk₁ k₁ (.inr (.inl ⟨hm.keeps, hm.new, ⟨_, _, ta, t, e1, rfl, rfl, rfl, rfl, fun _ => rfl, e2, ⟨_, _, e3, rfl, rfl⟩⟩, hx⟩))
end
end Mine
end

section
set_option Elab.async false
namespace Mine
open PySem PySem.W PySem.Calls PyProof.Rows

theorem updAll_len {f : Bool} {xs : List String} {ds : List V} {φ : Frm} {P : Frm → Prop} {X : Msg → Prop} (H : G (updAll f xs ds φ) P X) : xs.length = ds.length := by
  induction xs generalizing ds φ with
  | nil => cases ds with
    | nil => rfl
    | cons => exact (show False from H).elim
  | cons x xs ih => cases ds with
    | nil => exact (show False from H).elim
    | cons d ds => rw [List.length_cons, List.length_cons, ih (G.need (p := (f || d.atom) = true) H).2]
theorem updAll_RA {f : Bool} {xs : List String} {ds : List V} {φ : Frm} {PF : Frm → Prop} {X : Msg → Prop} {P : Program × World} {ok : Addr → Prop} {h : Heap} {vs : List Value} (H : G (updAll f xs ds φ) PF X) (ra : RA P (fun a => f = true → ok a) h vs ds) : RA P ok h vs ds := by
  induction xs generalizing ds φ vs with
  | nil => cases ra with
    | nil => exact .nil
    | cons => exact (show False from H).elim
  | cons x xs ih => cases ra with
    | nil => exact (show False from H).elim
    | cons r ra =>
      obtain ⟨q, H⟩ := G.need (p := (f || V.atom _) = true) H
      refine .cons ?_ (ih H ra)
      rcases Bool.or_eq_true_iff.mp q with q | q
      · exact r.weak fun _ x => x q
      · exact r.atom_any q
section
variable {prog : Program} {w : World} {b0 : Heap} {mg mb : PySem.Str → Option Value} {consts : String → Option V} {r : Rec} {n : Nat} {c : Cx} {E : List Addr} {φ : Frm} {Ω Ω' : List (String × Addr)} {s : Shared} {Q : Flow → Shared → Prop} {QU : Unit → Shared → Prop} {Ex : Value → Shared → Prop} {A : Around}

theorem CNs.length {sc : Scope} {es : List Expr} {xs : List String} (h : CNs sc es xs) (env : Env) : (assignEach es env).length = xs.length ∧ (assignEach es env).findIdx? (·.1) = none := by
  induction h with
  | nil => exact ⟨rfl, rfl⟩
  | cons _ _ _ ih =>
    refine ⟨?_, ?_⟩
    · show (_ :: assignEach _ env).length = _; rw [List.length_cons, List.length_cons, ih.1]
    · show ((false, _) :: assignEach _ env).findIdx? (·.1) = none; rw [List.findIdx?_cons]; simp only [Bool.false_eq_true, if_false]; rw [ih.2]; rfl
theorem names_sound (ok : c.Ok n) {f : Bool} {X : Msg → Prop} {es : List Expr} {xs : List String} (hc : CNs c.env.scope es xs) : ∀ {vs : List Value} {ds : List V} {φ : Frm} {s : Shared}, StS (prog, w) b0 c E φ Ω s.heap → RA (prog, w) (fun a => a ∉ E ∧ a ∉ c.Y Ω) s.heap vs ds →
    G (updAll f xs ds φ) (fun φ' => ∀ h' tk, Kp c.fs (c.Y Ω) s.heap h' → StS (prog, w) b0 c E φ' Ω h' → QU () { s with heap := h', toks := tk }) X → wpAny (model prog w) A (assignInOrder ((assignEach es c.env).map (·.2)) vs) QU Ex s := by
  induction hc with
  | nil =>
    intro vs ds φ s st ra H
    cases ra with
    | nil => exact wpAny_pure (H s.heap s.toks .refl st)
    | cons => exact (show False from H).elim
  | cons hx _ _ ih =>
    intro vs ds φ s st ra H
    cases ra with
    | nil => exact (show False from H).elim
    | cons rv ra =>
      rename_i x p es xs _ _ v vs d ds
      obtain ⟨q, H⟩ := G.need (p := (f || d.atom) = true) H
      show wpAny _ _ (do holding vs (assign (.Name (nm x) p) c.env v); assignInOrder ((assignEach es c.env).map (·.2)) vs) QU Ex s
      refine wpAny_bind (wpAny_holding (wpAny_assign_Name (put_val ok st hx .refl rv fun h' tk k st' => ?_)))
      exact ih (s := { s with heap := h', toks := tk }) st' (ra.mono (fun b o hb e hh => k.same e hb.2 hh.noFrame) fun _ _ x _ => x) (H.mono (fun _ _ Hp h'' tk' k' st'' => Hp h'' tk' (k.trans k') st'') fun _ _ X => X)
/-- a tuple into names -/
theorem unpack_sound {es : List Expr} {xs : List String} {k : Nat} {tp : Pos} {a : Addr} {vs : List Value} {ds : List V} {f : Bool} {X : Msg → Prop} (ok : c.Ok n) (hA : A.handled = none) (hc : CNs c.env.scope es xs) (st : StS (prog, w) b0 c E φ Ω s.heap) (hT : IsTup s.heap a vs.toArray) (ra : RA (prog, w) (fun a => f = true → a ∉ E ∧ a ∉ c.Y Ω) s.heap vs ds)
    (H : G (updAll f xs ds φ) (fun φ' => ∀ h' tk, Kp c.fs (c.Y Ω) s.heap h' → StS (prog, w) b0 c E φ' Ω h' → QU () { s with heap := h', toks := tk }) X) : wpAny (model prog w) A (assign (.Tuple es k tp) c.env (.ref a)) QU Ex s := by
  obtain ⟨h1, h2⟩ := hc.length c.env
  refine assign_Tuple_tuple hA hT (by rw [h1, updAll_len H, List.size_toArray, ra.length]) h2 fun h' he => ?_
  have kp : Kp c.fs [] s.heap h' := .of_keeps fun b o e => he b o (Nat.ne_of_lt (Heap.lt_size e)) e
  exact names_sound (s := { s with heap := h' }) ok hc (st.kp kp) ((updAll_RA H ra).mono (kp.up fun _ _ => by simp) fun _ _ x _ => x) (H.mono (fun _ _ Hp h'' tk k st'' => Hp h'' tk ((kp.weak fun _ z => nomatch z).trans k) st'') fun _ _ X => X)
theorem ex_unpack {es : List Expr} {xs : List String} {k : Nat} {tp p : Pos} {v : Expr} {e : IE} (hE : SEv prog w b0 r n) (ok : c.Ok n) (st : StS (prog, w) b0 c E φ Ω s.heap) (hc : CNs c.env.scope es xs) (hv : CE c.env.scope v e) (hnt : isTupE e = false)
    (H : G (exI r φ (.unpack xs e)) (ExPost (prog, w) b0 c E Ω s Q) (XPostS b0 c Ω s Ex)) : wpAny (model prog w) c.A (exec (.Assign [.Tuple es k tp] v p) c.env) Q Ex s := by
  dsimp only [exI] at H
  refine Assign_Tuple (hE c E φ Ω s _ _ _ _ ok st.st hv (H.bind.mono (fun u _ Hu v' h₁ tk₁ k₁ r₁ => ?_) fun _ _ X => X.now st.st)) hv.swT (hv.stT hnt)
  obtain ⟨a, vs, ds, rfl, h0, hT, hsz, ra, Hu⟩ := Hu.rTup r₁
  exact unpack_sound (s := { s with heap := h₁, toks := tk₁ }) ok ok.handled hc (st.kp k₁) hT ra (Hu.bind.mono (fun φ' _ Hp h' tk k st' => (show ExPost (prog, w) b0 c E Ω s Q (.next, φ') from Hp) .next h' tk Ω trivial ((k₁.weak fun _ z => nomatch z).trans k) .refl st') fun _ _ X => X)

/-! ## objects of our own change -/
theorem StS.mutK {P : Program × World} {x : String} {a : Addr} {sl sl₀ : Slot} {h h' : Heap} (st : StS P b0 c E φ Ω h) (hn : LName c.env.scope x) (hx : φ.lookup x = some sl₀) (hcur : ∀ mv, SlotAt P E (c.Y Ω) Ω h mv x sl₀ → mv = some (.ref a)) (ha : Ω.lookup x = some a)
    (k : Kp c.fs [a] h h') (hal : ∃ o, h'.get? a = some o) (hsl : SlotAt P E (c.Y Ω) Ω h' (some (.ref a)) x sl) (hacc : ∀ ds, sl = .acc ds → a ∉ E) : StS P b0 c E (upd x sl φ) Ω h' := by
  have haY : a ∈ c.Y Ω := omega_Y ha
  have aOwn := st.not_own ha
  have aFs : a ∉ c.fs := fun z => by
    by_cases e : a = c.env.locals
    · exact aOwn (by rw [e]; exact .head _)
    · exact st.apart a z e haY
  have n1 : ∀ {b}, b ≠ a → b ∉ [a] := fun hb z => hb (List.mem_singleton.mp z)
  have up : UpAt (fun b => b ∉ c.Y Ω) h h' := fun b o hb e hh => k.same e (n1 fun z => hb (z ▸ haY)) hh.noFrame
  obtain ⟨m, cm, h1, h2, h3⟩ := st.st.loc
  have slots : ∀ b o, b ≠ a → h.get? b = some o → ∃ sl, h'.get? b = some { o with slots := sl } := fun b o hb e => k.there e (n1 hb)
  refine ⟨⟨fun b o e => ?_, ?_, ?_, ⟨m, cm, ?_, fun y j hk => ?_, fun y sl' hl hy => ?_⟩, fun b hb => ?_, st.st.off⟩, st.nodup, fun y hy => ?_, fun y ds b hl hb => ?_, st.apart⟩
  · have e1 := st.st.stay b o e
    rcases k b o e1 (n1 fun z => by rw [z, st.st.off a (.inr haY)] at e; cases e) with q | ⟨q, _⟩
    · exact q
    · rw [(st.st.ff.mem q).1] at e; cases e
  · exact ff_kp st.st.ff k fun b hb => n1 fun z => aFs (z ▸ hb)
  · exact fc_kp st.st.fc k fun b hb => n1 fun z => aFs (z ▸ hb)
  · obtain ⟨o, es, ep, e, hd, hk, hf⟩ := h1
    obtain ⟨sl, e'⟩ := slots _ o (fun z => aOwn (by rw [← z]; exact .head _)) e
    exact ⟨_, es, ep, e', hd, hk, hf⟩
  · obtain ⟨o, e, hd⟩ := h2 y j hk
    obtain ⟨sl, e'⟩ := slots j o (fun z => aOwn (by rw [← z]; exact .tail _ (List.mem_map.mpr ⟨_, lookup_mem hk, rfl⟩))) e
    exact ⟨_, e', hd⟩
  · rw [upd_lookup] at hl
    by_cases e : y = x
    · subst e
      rw [if_pos rfl] at hl; cases hl
      rw [hcur _ (h3 y _ hx hy)]; exact hsl
    · rw [if_neg e] at hl
      have q := h3 y sl' hl hy
      have ne : ∀ b, Ω.lookup y = some b → b ≠ a := fun b hb z => e (nodup_snd' (List.nodup_append.mp st.nodup).2.1 (str_lookup_mem hb) (z ▸ str_lookup_mem ha))
      cases sl' with
      | val d f =>
        obtain ⟨v, ev, rv⟩ := q
        exact ⟨v, ev, rv.mono (fun b o hb e hh => up b o hb.2 e hh) fun b o hb e => hb⟩
      | acc ds =>
        obtain ⟨b, vs, q1, q2, q4, q5⟩ := q
        exact ⟨b, vs, q1, q2, q4.up fun o e hc => k.same e (n1 (ne b q1)) hc, q5.mono (fun b o hb e hh => up b o hb.2 e hh) fun b o hb e => hb⟩
      | tab kvs =>
        obtain ⟨b, q1, q2, ps, ds, t1, t2, t3, t4, t5⟩ := q
        exact ⟨b, q1, q2, ps, ds, dict_up t1 (fun o e hc => k.same e (n1 (ne b q1)) hc), t2, t3.mono (fun b o hb e hh => up b o hb.2 e hh) (fun b o hb e => hb), t4, t5⟩
      | gone => trivial
  · obtain ⟨o, e⟩ := st.st.alive b hb
    by_cases z : b = a
    · rw [z]; exact hal
    · obtain ⟨sl, e'⟩ := slots b o z e; exact ⟨_, e'⟩
  · rw [upd_lookup] at hy
    by_cases e : y = x
    · rw [if_pos e] at hy; cases hy
    · rw [if_neg e] at hy; exact st.dom y hy
  · rw [upd_lookup] at hl
    by_cases e : y = x
    · subst e; rw [if_pos rfl] at hl; cases hl; rw [ha] at hb; cases hb; exact hacc ds rfl
    · rw [if_neg e] at hl; exact st.accE y ds b hl hb
theorem StS.mut {P : Program × World} {x : String} {a : Addr} {sl sl₀ : Slot} {h h' : Heap} (st : StS P b0 c E φ Ω h) (hn : LName c.env.scope x) (hx : φ.lookup x = some sl₀) (hcur : ∀ mv, SlotAt P E (c.Y Ω) Ω h mv x sl₀ → mv = some (.ref a)) (ha : Ω.lookup x = some a)
    (hs : Heap.SameBut a h h') (hal : ∃ o, h'.get? a = some o) (hsl : SlotAt P E (c.Y Ω) Ω h' (some (.ref a)) x sl) (hacc : ∀ ds, sl = .acc ds → a ∉ E) : StS P b0 c E (upd x sl φ) Ω h' := st.mutK hn hx hcur ha (.of_same hs (.head _)) hal hsl hacc
theorem mut_kp {x : String} {a : Addr} {h h' : Heap} (ha : Ω.lookup x = some a) (hs : Heap.SameBut a h h') : Kp c.fs (c.Y Ω) h h' := .of_same hs (omega_Y ha)
/-- appending to a list of our own -/
theorem append_sound {x : String} {ds : List V} {d : V} {v : Value} {a : Addr} (st : StS (prog, w) b0 c E φ Ω s.heap) (hn : LName c.env.scope x) (hx : φ.lookup x = some (.acc ds)) (ha : Ω.lookup x = some a) (hd : ds.length < lim) (rv : R (prog, w) (fun a => a ∉ E ∧ a ∉ c.Y Ω) s.heap v d) {QV : Value → Shared → Prop}
    (H : ∀ h', Kp c.fs (c.Y Ω) s.heap h' → StS (prog, w) b0 c E (upd x (.acc (ds ++ [d])) φ) Ω h' → QV .none { s with heap := h' }) : wpAny (model prog w) A (call (.builtin "list.append") [.ref a, v]) QV Ex s := by
  obtain ⟨m, cm, h1, h2, h3⟩ := st.st.loc
  obtain ⟨a', vs, q1, q2, q4, q5⟩ := h3 x _ hx hn
  rw [ha] at q1; cases q1
  have hlen := q5.length
  have hl2 : lim + 2 ≤ sizeLine := by rw [sizeLine_eq]; decide
  refine wpAny_list_append_plain (hsz := by rw [List.size_toArray]; omega) q4.1 fun h' hl hs => H h' (mut_kp ha hs) ?_
  obtain ⟨k, e⟩ := id hl
  have up : UpAt (fun b => b ∉ E ∧ b ∉ c.Y Ω) s.heap h' := fun b o hb e _ => hs.extBut b o (fun z => hb.2 (z ▸ omega_Y ha)) e
  refine st.mut hn hx (fun mv q => by obtain ⟨b, vs, q1, q2, _⟩ := q; rw [ha] at q1; cases q1; exact q2) ha hs ⟨_, e⟩ ⟨a, vs ++ [v], ha, rfl, ⟨by simpa using hl, by rw [List.length_append, List.length_singleton]; omega⟩, ?_⟩ fun ds' _ => st.accE x ds a hx ha
  exact (q5.mono up fun _ _ x _ => x).append (.one (rv.mono up fun _ _ x _ => x))
theorem not_interactive (ok : c.Ok n) : interactive c.env = false := by unfold interactive; rw [ok.kind]; rfl
theorem ex_append0 {x : String} {xp ap cp p : Pos} {v : Expr} {e : IE} (hE : SEv prog w b0 r n) (ok : c.Ok n) (st : StS (prog, w) b0 c E φ Ω s.heap) (hn : LName c.env.scope x) (hl : (ap.endLine == cp.line) = true) (hv : CE c.env.scope v e)
    (H : G (appI r φ x e) (ExPost (prog, w) b0 c E Ω s Q) (XPost0 c s Ex)) : wpAny (model prog w) c.A (exec (.Expr (.Call (.Attribute (.Name (nm x) xp) (nm "append") ap) [v] [] cp) p) c.env) Q Ex s := by
  obtain ⟨ds, hx, H⟩ := G.onAcc H
  obtain ⟨m, cm, h1, h2, h3⟩ := st.st.loc
  obtain ⟨a, vs, q1, q2, q4, q5⟩ := h3 x _ hx hn
  refine wpAny_Expr_any (wpAny_Call_method (T := "list") (id := "list.append") rfl (by rw [(CEs.add hv .nil).all]; rfl) hl F.plainAttrs_list F.slot_list_append F.type_list_append ?_) (not_interactive ok)
  refine ld_at ok hn h1 h2 q2 ⟨q4.list.isList.typeIs, fun b e => (by cases e; obtain ⟨k, e'⟩ := q4.1; exact ⟨_, e', rfl⟩), ?_⟩
  refine callWith_method1 ?_ (hv.star _ _) rfl
  refine args_cons ?_ (hv.star _ _)
  refine hE c E φ Ω s _ _ _ _ ok st.st hv (H.bind.mono (fun u _ Hu v' h₁ tk₁ k₁ r₁ => args_nil ?_) fun _ _ X => X.now)
  obtain ⟨rv, Hu⟩ := Hu.bind.fz r₁
  obtain ⟨hlt, Hq⟩ := Hu.need
  exact append_sound (s := { s with heap := h₁, toks := tk₁ }) (st.kp k₁) hn hx q1 hlt rv fun h' k st' => Hq .next h' _ Ω trivial ((k₁.weak fun _ z => nomatch z).trans k) .refl st'
end
end Mine
end

section
set_option Elab.async false
namespace Mine
open PySem PySem.W PySem.Calls PyProof.Rows

/-- the pairs of a dict -/
inductive PR (P : Program × World) (ok : Addr → Prop) (h : Heap) : List (PySem.Str × Value) → List (PySem.Str × V) → Prop
  | nil : PR P ok h [] []
  | cons {k v d ps kvs} : R P ok h v d → PR P ok h ps kvs → PR P ok h ((k, v) :: ps) ((k, d) :: kvs)
section
variable {P : Program × World} {ok ok' : Addr → Prop} {h h' : Heap}
theorem PR.of_zip {ps : List (PySem.Str × Value)} {ds : List V} (x : RA P ok h (ps.map (·.2)) ds) : PR P ok h ps ((ps.map (·.1)).zip ds) := by
  induction ps generalizing ds with
  | nil => cases x; exact .nil
  | cons p ps ih => cases x with | cons r ra => exact .cons r (ih ra)
theorem PR.zip {ps : List (PySem.Str × Value)} {kvs : List (PySem.Str × V)} (p : PR P ok h ps kvs) : ∃ ds, RA P ok h (ps.map (·.2)) ds ∧ kvs = (ps.map (·.1)).zip ds := by
  induction p with
  | nil => exact ⟨[], .nil, rfl⟩
  | cons r _ ih => obtain ⟨ds, ra, e⟩ := ih; exact ⟨_ :: ds, .cons r ra, by rw [e]; rfl⟩
theorem PR.mono {ps kvs} (p : PR P ok h ps kvs) (k : UpAt ok h h') (hk : ∀ b o, ok b → h.get? b = some o → ok' b) : PR P ok' h' ps kvs := by
  induction p with
  | nil => exact .nil
  | cons r _ ih => exact .cons (r.mono k hk) ih
theorem PR.any {ps kvs} (p : PR P ok h ps kvs) (k : PySem.Str) : (ps.any fun kv => decide (kv.1 = k)) = kvs.any fun kv => decide (kv.1 = k) := by
  induction p with
  | nil => rfl
  | cons _ _ ih => rw [List.any_cons, List.any_cons, ih]
theorem PR.append {ps qs kvs lvs} (p : PR P ok h ps kvs) (q : PR P ok h qs lvs) : PR P ok h (ps ++ qs) (kvs ++ lvs) := by
  induction p with
  | nil => exact q
  | cons r _ ih => exact .cons r ih
theorem PR.put {ps kvs} (p : PR P ok h ps kvs) (k : PySem.Str) {v : Value} {d : V} (r : R P ok h v d) : PR P ok h (stored ps k v) (dictPut kvs k d) := by
  unfold stored dictPut
  rw [p.any k]
  split
  · rename_i hany
    clear hany
    induction p with
    | nil => exact .nil
    | cons r0 _ ih =>
      rw [List.map_cons, List.map_cons]
      dsimp only
      split
      · exact .cons r ih
      · exact .cons r0 ih
  · exact p.append (.cons r .nil)
theorem PR.del {ps kvs} (p : PR P ok h ps kvs) (k : PySem.Str) : PR P ok h (without ps k) (dictDel k kvs) := by
  unfold without dictDel
  induction p with
  | nil => exact .nil
  | cons r _ ih =>
    rw [List.filter_cons, List.filter_cons]
    dsimp only
    split
    · exact .cons r ih
    · exact ih
theorem PR.look {ps kvs} (p : PR P ok h ps kvs) (k : PySem.Str) {d : V} (hd : kvs.lookup k = some d) : ∃ v, valueAt ps k = some v ∧ R P ok h v d := by
  obtain ⟨ds, ra, rfl⟩ := p.zip
  exact (valueAt_lookup k ra).2 d hd
theorem PR.length {ps kvs} (p : PR P ok h ps kvs) : ps.length = kvs.length := by
  induction p with
  | nil => rfl
  | cons _ _ ih => rw [List.length_cons, List.length_cons, ih]
theorem stored_sz {ps : List (PySem.Str × Value)} {k : PySem.Str} {v : Value} (hz : Sz ps) (hl : ps.length < sizeLine) (hk : k.length ≤ sizeLine) : Sz (stored ps k v) := by
  refine ⟨Nat.le_trans (stored_length_le ps k v) hl, fun p hp => ?_⟩
  unfold stored at hp
  split at hp
  · obtain ⟨q, hq, rfl⟩ := List.mem_map.mp hp
    split
    · exact hz.2 q hq
    · exact hz.2 q hq
  · rcases List.mem_append.mp hp with hp | hp
    · exact hz.2 p hp
    · rw [List.mem_singleton.mp hp]; exact hk
theorem without_sz {ps : List (PySem.Str × Value)} {k : PySem.Str} (hz : Sz ps) : Sz (without ps k) := ⟨Nat.le_trans (List.length_filter_le _ _) hz.1, fun p hp => hz.2 p (List.mem_filter.mp hp).1⟩
end
section
variable {prog : Program} {w : World} {b0 : Heap} {mg mb : PySem.Str → Option Value} {consts : String → Option V} {r : Rec} {n : Nat} {c : Cx} {E : List Addr} {φ : Frm} {Ω Ω' : List (String × Addr)} {s : Shared} {Q : Flow → Shared → Prop} {QU : Unit → Shared → Prop} {Ex : Value → Shared → Prop} {A : Around}

theorem StS.tab {P : Program × World} {h : Heap} {t : String} {kvs : List (PySem.Str × V)} (st : StS P b0 c E φ Ω h) (hn : LName c.env.scope t) (hx : φ.lookup t = some (.tab kvs)) : ∃ a ps, Ω.lookup t = some a ∧ h.DictOf (strKind P.1 P.2) a ps ∧ (a == sysModules) = false ∧ PR P (fun a => a ∉ E ∧ a ∉ c.Y Ω) h ps kvs ∧ Sz ps := by
  obtain ⟨m, cm, h1, h2, h3⟩ := st.st.loc
  obtain ⟨a, q1, q2, ps, ds, t1, t2, t3, t4, rfl⟩ := h3 t _ hx hn
  exact ⟨a, ps, q1, t1, t2, .of_zip t3, t4⟩
/-- the dict has changed -/
theorem StS.retab {P : Program × World} {h h' : Heap} {t : String} {kvs kvs' : List (PySem.Str × V)} {a : Addr} {ps : List (PySem.Str × Value)} (st : StS P b0 c E φ Ω h) (hn : LName c.env.scope t) (hx : φ.lookup t = some (.tab kvs)) (ha : Ω.lookup t = some a) (hs : Heap.SameBut a h h')
    (hd : h'.DictOf (strKind P.1 P.2) a ps) (hlo : (a == sysModules) = false) (hp : PR P (fun a => a ∉ E ∧ a ∉ c.Y Ω) h ps kvs') (hz : Sz ps) : StS P b0 c E (upd t (.tab kvs') φ) Ω h' := by
  have up : UpAt (fun b => b ∉ E ∧ b ∉ c.Y Ω) h h' := fun b o hb e _ => hs.extBut b o (fun z => hb.2 (z ▸ omega_Y ha)) e
  obtain ⟨ds, ra, e⟩ := (hp.mono (ok' := fun b => b ∉ E ∧ b ∉ c.Y Ω) up fun _ _ x _ => x).zip
  refine st.mut hn hx (fun mv q => by obtain ⟨b, q1, q2, _⟩ := q; rw [ha] at q1; cases q1; exact q2) ha hs (let ⟨o, _, _, e, _⟩ := hd; ⟨o, e⟩) ⟨a, ha, rfl, ps, ds, hd, hlo, ra, hz, e⟩ fun ds e => nomatch e
theorem dictPut_len {kvs : List (PySem.Str × V)} {k : PySem.Str} {v : V} : (dictPut kvs k v).length ≤ kvs.length + 1 := by
  unfold dictPut
  split
  · rw [List.length_map]; omega
  · rw [List.length_append, List.length_singleton]; omega
theorem ex_setKey {t : String} {tp sp p : Pos} {k v : Expr} {ki e : IE} (hE : SEv prog w b0 r n) (ok : c.Ok n) (st : StS (prog, w) b0 c E φ Ω s.heap) (hn : LName c.env.scope t) (hk : CE c.env.scope k ki) (hv : CE c.env.scope v e)
    (H : G (exI r φ (.setKey t ki e)) (ExPost (prog, w) b0 c E Ω s Q) (XPostS b0 c Ω s Ex)) : wpAny (model prog w) c.A (exec (.Assign [.Subscript (.Name (nm t) tp) k sp] v p) c.env) Q Ex s := by
  dsimp only [exI] at H
  obtain ⟨kvs, hx, H⟩ := G.onTab H
  refine wpAny_Assign_Subscript (hE c E φ Ω s _ _ _ _ ok st.st hv (H.bind.mono (fun u _ Hu v' h₁ tk₁ k₁ r₁ => ?_) fun _ _ X => X.now st.st)) hv.swS
  have st₁ := st.kp k₁
  have k₁w : Kp c.fs (c.Y Ω) s.heap h₁ := k₁.weak fun _ z => nomatch z
  refine tab_at (s := { s with heap := h₁, toks := tk₁ }) ok st₁.st hn hx fun a ha _ => ?_
  refine hE c E φ Ω { s with heap := h₁, toks := tk₁ } _ _ _ _ ok st₁.st hk (Hu.bind.mono (fun j _ Hj v'' h₂ tk₂ k₂ r₂ => ?_) fun _ _ X => (X.step k₁w .refl).now st₁.st)
  have st₂ := st₁.kp k₂
  obtain ⟨y, ty, rfl, hy, Hj⟩ := Hj.rStr r₂
  obtain ⟨rv, Hj⟩ := Hj.bind.fz r₁
  obtain ⟨hlt, Hq⟩ := Hj.need
  obtain ⟨a', ps, ha', hD, hlo, hp, hz⟩ := st₂.tab hn hx
  rw [ha] at ha'; cases ha'
  have hps : ps.length < sizeLine := by rw [hp.length, sizeLine_eq]; omega
  refine wpAny_setItem_pairs (hsz := hz.1) (strIs _ _) hD fun h' hD' hs => ?_
  exact Hq .next h' _ Ω trivial ((k₁w.trans (k₂.weak fun _ z => nomatch z)).trans (mut_kp ha hs)) .refl (st₂.retab hn hx ha hs hD' hlo (hp.put y (rv.mono (k₂.up fun _ _ => by simp) fun _ _ x _ => x)) (stored_sz hz hps hy))
/-- `t.pop(k)` -/
theorem pop_sound {t : String} {tp ap cp : Pos} {k : Expr} {ki : IE} {kvs : List (PySem.Str × V)} {QV : Value → Shared → Prop} {RR : PySem.Str → V → Res (Fl × Frm)} (hE : SEv prog w b0 r n) (ok : c.Ok n) (st : StS (prog, w) b0 c E φ Ω s.heap) (hn : LName c.env.scope t) (hl : (ap.endLine == cp.line) = true) (hk : CE c.env.scope k ki) (hx : φ.lookup t = some (.tab kvs)) {post : Fl × Frm → Prop}
    (H : G ((r.ev φ ki).bind fun j => onStr j.1 fun k => onO (kvs.lookup k) fun d => if kvs.length ≤ 1000 then RR k d else .bad) post (XPostS b0 c Ω s Ex))
    (hq : ∀ y d v h' tk, Kp c.fs (c.Y Ω) s.heap h' → StS (prog, w) b0 c E (upd t (.tab (dictDel y kvs)) φ) Ω h' → R (prog, w) (fun a => a ∉ E ∧ a ∉ c.Y Ω) h' v d → G (RR y d) post (XPostS b0 c Ω s Ex) → QV v { s with heap := h', toks := tk }) :
    wpAny (model prog w) c.A (eval (.Call (.Attribute (.Name (nm t) tp) (nm "pop") ap) [k] [] cp) c.env) QV Ex s := by
  refine wpAny_Call_method (T := "dict") (id := "dict.pop") rfl (by rw [(CEs.add hk .nil).all]; rfl) hl F.plainAttrs_dict F.slot_dict_pop F.type_dict_pop ?_
  refine tab_at ok st.st hn hx fun a ha T => ?_
  obtain ⟨ps0, ds0, q1, q2, q3, q4, q5⟩ := T
  refine ⟨q1.typeIs, q1.mapOf.noDict, callWith_method1 ?_ (hk.star _ _) rfl⟩
  refine args_cons ?_ (hk.star _ _)
  refine hE c E φ Ω s _ _ _ _ ok st.st hk (H.bind.mono (fun j _ Hj v'' h₂ tk₂ k₂ r₂ => args_nil ?_) fun _ _ X => X.now st.st)
  have st₂ := st.kp k₂
  obtain ⟨y, ty, rfl, hy, Hj⟩ := Hj.rStr r₂
  obtain ⟨d, hlk, Hj⟩ := Hj.onO
  obtain ⟨hlt, Hq⟩ := Hj.need
  obtain ⟨a', ps, ha', hD, hlo, hp, hz⟩ := st₂.tab hn hx
  rw [ha] at ha'; cases ha'
  obtain ⟨v, hv, rv⟩ := hp.look y hlk
  refine call_meetsIn PySem.F.slot_dict_pop hD.typeIs PySem.F.entry_dict_pop (F.args_dict_pop_2 _ _) (meets_dict_pop_there _ a (strIs y ty) [] (.inl rfl) rfl) ⟨ps, v, hD, hz.1, hv, fun h' hD' hs => ?_⟩
  have up : UpAt (fun b => b ∉ E ∧ b ∉ c.Y Ω) h₂ h' := fun b o hb e _ => hs.extBut b o (fun z => hb.2 (z ▸ omega_Y ha)) e
  exact hq y d v h' _ ((k₂.weak fun _ z => nomatch z).trans (mut_kp ha hs)) (st₂.retab hn hx ha hs hD' hlo (hp.del y) (without_sz hz)) (rv.mono up fun _ _ x _ => x) Hq
theorem ex_popTo {y t : String} {yp tp ap cp p : Pos} {k : Expr} {ki : IE} (hE : SEv prog w b0 r n) (ok : c.Ok n) (st : StS (prog, w) b0 c E φ Ω s.heap) (hy : LName c.env.scope y) (hn : LName c.env.scope t) (hl : (ap.endLine == cp.line) = true) (hk : CE c.env.scope k ki)
    (H : G (exI r φ (.popTo y t ki)) (ExPost (prog, w) b0 c E Ω s Q) (XPostS b0 c Ω s Ex)) : wpAny (model prog w) c.A (exec (.Assign [.Name (nm y) yp] (.Call (.Attribute (.Name (nm t) tp) (nm "pop") ap) [k] [] cp) p) c.env) Q Ex s := by
  dsimp only [exI] at H
  obtain ⟨kvs, hx, H⟩ := G.onTab H
  refine wpAny_Assign_Name (pop_sound (RR := fun k d => .ok (.next, upd y (.val d true) (upd t (.tab (dictDel k kvs)) φ))) hE ok st hn hl hk hx H fun z d v h' tk kp st' rv HR => ?_)
  exact put_val (s := { s with heap := h', toks := tk }) ok st' hy .refl rv fun h'' tk' k' st'' => (show ExPost (prog, w) b0 c E Ω s Q _ from HR) .next h'' tk' Ω trivial (kp.trans k') .refl st''
theorem ex_popKey {t : String} {tp ap cp p : Pos} {k : Expr} {ki : IE} (hE : SEv prog w b0 r n) (ok : c.Ok n) (st : StS (prog, w) b0 c E φ Ω s.heap) (hn : LName c.env.scope t) (hl : (ap.endLine == cp.line) = true) (hk : CE c.env.scope k ki)
    (H : G (exI r φ (.popKey t ki)) (ExPost (prog, w) b0 c E Ω s Q) (XPostS b0 c Ω s Ex)) : wpAny (model prog w) c.A (exec (.Expr (.Call (.Attribute (.Name (nm t) tp) (nm "pop") ap) [k] [] cp) p) c.env) Q Ex s := by
  dsimp only [exI] at H
  obtain ⟨kvs, hx, H⟩ := G.onTab H
  refine wpAny_Expr_any (pop_sound (RR := fun k _ => .ok (.next, upd t (.tab (dictDel k kvs)) φ)) hE ok st hn hl hk hx H fun z d v h' tk kp st' rv HR => ?_) (not_interactive ok)
  exact (show ExPost (prog, w) b0 c E Ω s Q _ from HR) .next h' tk Ω trivial kp .refl st'
theorem ex_delKey {t : String} {tp sp p : Pos} {k : Expr} {ki : IE} (hE : SEv prog w b0 r n) (ok : c.Ok n) (st : StS (prog, w) b0 c E φ Ω s.heap) (hn : LName c.env.scope t) (hk : CE c.env.scope k ki)
    (H : G (exI r φ (.delKey t ki)) (ExPost (prog, w) b0 c E Ω s Q) (XPostS b0 c Ω s Ex)) : wpAny (model prog w) c.A (exec (.Delete [.Subscript (.Name (nm t) tp) k sp] p) c.env) Q Ex s := by
  dsimp only [exI] at H
  obtain ⟨kvs, hx, H⟩ := G.onTab H
  refine wpAny_Delete (wpAny_deleteEach_cons (wpAny_delete_Subscript ?_))
  refine tab_at ok st.st hn hx fun a ha _ => ?_
  refine hE c E φ Ω s _ _ _ _ ok st.st hk (H.bind.mono (fun j _ Hj v'' h₂ tk₂ k₂ r₂ => ?_) fun _ _ X => X.now st.st)
  have st₂ := st.kp k₂
  obtain ⟨y, ty, rfl, hy, Hj⟩ := Hj.rStr r₂
  obtain ⟨d, hlk, Hj⟩ := Hj.onO
  obtain ⟨hlt, Hq⟩ := Hj.need
  obtain ⟨a', ps, ha', hD, hlo, hp, hz⟩ := st₂.tab hn hx
  rw [ha] at ha'; cases ha'
  obtain ⟨v, hv, rv⟩ := hp.look y hlk
  have hvs : (valueAt ps y).isSome = true := by rw [hv]; rfl
  unfold delItem
  try with_reducible refine wpAny_holding ?_
  refine wpAny_bind (wpAny_sequenceKey hD.typeIs (by decide) ?_)
  refine wpAny_bind (wpAny_callSpecial?_slot (name := PySem.Str.ofString "__delitem__") hD.typeIs PySem.F.slot_dict_delitem (call_meetsIn PySem.F.slot_dict_delitem hD.typeIs PySem.F.entry_dict_delitem (PySem.F.args_dict_delitem_2 _ _) (meets_dict_delitem_pairs _ a (strIs y ty)) ⟨ps, hD, hz.1, hvs, fun h' hD' hs => ?_⟩))
  exact wpAny_pure (wpAny_deleteEach_nil (Hq .next h' _ Ω trivial ((k₂.weak fun _ z => nomatch z).trans (mut_kp ha hs)) .refl (st₂.retab hn hx ha hs hD' hlo (hp.del y) (without_sz hz))))
end
end Mine
end

section
set_option Elab.async false
namespace Mine
open PySem PySem.W PySem.Calls PyProof.Rows

section
variable {prog : Program} {w : World} {b0 : Heap} {mg mb : PySem.Str → Option Value} {consts : String → Option V} {r : Rec} {n : Nat} {c : Cx} {E : List Addr} {φ : Frm} {Ω Ω' : List (String × Addr)} {s : Shared} {Q : Flow → Shared → Prop} {QU : Unit → Shared → Prop} {Ex : Value → Shared → Prop} {A : Around}

noncomputable def LRel (c : Cx) (wr : List Addr) (Ω : List (String × Addr)) (h₁ : Heap) (Ω' : List (String × Addr)) (h' : Heap) : Prop := Kp c.fs (wr ++ c.Y Ω) h₁ h' ∧ (∀ a ∈ c.Y Ω', a ∈ c.Y Ω ∨ h₁.get? a = none) ∧ ∀ x a, Ω.lookup x = some a → Ω'.lookup x = some a
inductive LInv (prog : Program) (w : World) (b0 : Heap) (c : Cx) (E wr : List Addr) (Ω : List (String × Addr)) (h₁ : Heap) (r : Rec) (bnd : V × Bool → Frm → Res Frm) (is : List IS) (us : List (V × Bool)) (Sv : Nat → Heap → Prop) (s : Shared) (Q : Flow → Shared → Prop) (Ex : Value → Shared → Prop) (k : Nat) (s' : Shared) : Prop
  | mk (h' : Heap) (tk : Nat) (φ' : Frm) (Ω' : List (String × Addr)) (i : Nat) : s' = { s with heap := h', toks := tk } → i ≤ us.length → k = us.length + 1 - i → Sv i h' → StS (prog, w) b0 c E φ' Ω' h' → LRel c wr Ω h₁ Ω' h' → G (loopG r bnd is φ' (us.drop i)) (ExPost (prog, w) b0 c E Ω s Q) (XPostS b0 c Ω s Ex) →
      LInv prog w b0 c E wr Ω h₁ r bnd is us Sv s Q Ex k s'
theorem loop_sound {target : Expr} {it : Addr} {body : List Stmt} {is : List IS} {bnd : V × Bool → Frm → Res Frm} {us : List (V × Bool)} {fp wr : List Addr} {Sv : Nat → Heap → Prop} {h₁ : Heap} {tk₁ : Nat} (hX : SEx prog w b0 r n) (ok : c.Ok n) (hf : c.Fn) (hp : Passes prog w c Ex)
    (st : StS (prog, w) b0 c E φ Ω s.heap) (k₁ : Kp c.fs [] s.heap h₁) (hst : Sv 0 h₁) (hfp : ∀ b ∈ fp, b ∉ c.fs ∧ b ∉ c.Y Ω ∧ ∃ o, h₁.get? b = some o) (hwr : ∀ b ∈ wr, s.heap.get? b = none ∧ b ∈ fp) (hal : ∀ i h, Sv i h → ∀ b ∈ wr, ∃ o, h.get? b = some o)
    (hframe : ∀ i h h', Sv i h → (∀ b ∈ fp, ∀ o, h.get? b = some o → h'.get? b = some o) → Sv i h') (hbody : CB c.env.scope body is)
    (hturn : ∀ i u φ' Ω' (s' : Shared) (QU : Shared → Prop) (E' : Value → Shared → Prop), us[i]? = some u → Sv i s'.heap → StS (prog, w) b0 c E φ' Ω' s'.heap → LRel c wr Ω h₁ Ω' s'.heap →
      G (bnd u φ') (fun φ'' => ∀ h'' tk, Sv (i + 1) h'' → Kp c.fs (wr ++ c.Y Ω') s'.heap h'' → StS (prog, w) b0 c E φ'' Ω' h'' → QU { s' with heap := h'', toks := tk }) (XPostS b0 c Ω s Ex) →
      wpAny (model prog w) c.A (pyNext (.ref it)) (fun r s₁ => match r with | none => False | some v => wpAny (model prog w) c.A (letOwnedTupleGo target (.ref it) v) (fun _ s₂ => wpAny (model prog w) c.A (assign target c.env v) (fun _ s₃ => QU s₃) E' s₂) E' s₁) E' s')
    (hdone : ∀ φ' Ω' (s' : Shared) (QN : Shared → Prop) (E' : Value → Shared → Prop), Sv us.length s'.heap → StS (prog, w) b0 c E φ' Ω' s'.heap → LRel c wr Ω h₁ Ω' s'.heap →
      (∀ h'' tk, Kp c.fs (wr ++ c.Y Ω') s'.heap h'' → StS (prog, w) b0 c E φ' Ω' h'' → QN { s' with heap := h'', toks := tk }) → wpAny (model prog w) c.A (pyNext (.ref it)) (fun r s₁ => match r with | none => QN s₁ | some _ => False) E' s')
    (H : G (loopG r bnd is φ us) (ExPost (prog, w) b0 c E Ω s Q) (XPostS b0 c Ω s Ex)) :
    codeAny (model prog w) c.A (.forLoop target (.ref it) body [] c.env) (fun r s' => match r with | .ok f => Q f s' | .error e => cameBackBy (model prog w) c.A c.env Ex e s') { s with heap := h₁, toks := tk₁ } := by
  have fin : ∀ {Ω' h'}, LRel c wr Ω h₁ Ω' h' → Kp c.fs (c.Y Ω) s.heap h' ∧ Gr c s.heap Ω Ω' := fun {Ω' h'} rel => by
    refine ⟨(k₁.weak fun _ z => nomatch z).trans' rel.1 fun b o e hb => ?_, rel.2.2, fun a ha => ?_⟩
    · rcases List.mem_append.mp hb with hb | hb
      · rw [(hwr b hb).1] at e; cases e
      · exact hb
    · rcases rel.2.1 a ha with z | z
      · exact .inl z
      · exact .inr (none_back k₁ z)
  have step : ∀ {Ω' h' Y h''}, LRel c wr Ω h₁ Ω' h' → (∀ b ∈ Y, b ∈ wr ++ c.Y Ω') → Kp c.fs Y h' h'' → Kp c.fs (wr ++ c.Y Ω) h₁ h'' := fun {Ω' h' Y h''} rel hY k => rel.1.trans' k fun b o e hb => by
    rcases List.mem_append.mp (hY b hb) with z | z
    · exact List.mem_append_left _ z
    · rcases rel.2.1 b z with z | z
      · exact List.mem_append_right _ z
      · rw [z] at e; cases e
  refine codeAny_forLoop_any (LInv prog w b0 c E wr Ω h₁ r bnd is us Sv s Q Ex) ?_ (us.length + 1)
    ⟨h₁, tk₁, φ, Ω, 0, rfl, Nat.zero_le _, rfl, hst, st.kp k₁, ⟨.refl, fun _ z => .inl z, fun _ _ e => e⟩, by simpa using H⟩
  rintro k s' ⟨h', tk, φ', Ω', i, rfl, hi, rfl, hst', st', rel, Hi⟩
  by_cases hlt : i < us.length
  · have hd : us.drop i = us[i] :: us.drop (i + 1) := List.drop_eq_getElem_cons hlt
    rw [hd] at Hi
    have Hi := G.bind (res := bnd us[i] φ') Hi
    refine wpAny_mono (hturn i us[i] φ' Ω' { s with heap := h', toks := tk } (fun s₃ => wpAny (model prog w) c.A (execs body c.env) (fun f s₄ => match f with
        | .next | .cont => ∃ m, m < us.length + 1 - i ∧ LInv prog w b0 c E wr Ω h₁ r bnd is us Sv s Q Ex m s₄
        | .brk => Q .next s₄
        | .ret v => Q (.ret v) s₄) (notedBy (model prog w) c.A c.env (cameBackBy (model prog w) c.A c.env Ex)) s₃) (notedBy (model prog w) c.A c.env (cameBackBy (model prog w) c.A c.env Ex)) (List.getElem?_eq_getElem hlt) hst' st' rel (Hi.mono (fun φ'' _ Hi' h₂ tk₂ hst₂ k₂ st₂ => ?_) fun _ _ X => X)) (fun rr s₁ h₁' => ?_) fun _ _ x => x
    · have rel₂ : LRel c wr Ω h₁ Ω' h₂ := ⟨step rel (fun _ z => z) k₂, rel.2.1, rel.2.2⟩
      obtain ⟨kp₂, gr₂⟩ := fin rel₂
      refine wpAny_passesOwn hp.own (blk_sound (s := { s with heap := h₂, toks := tk₂ }) hX ok hf hp hbody st₂ ((G.bind (res := blk r φ'' is) Hi').mono (fun p _ Hp flow h₃ tk₃ Ω₃ hfl k₃ g₃ st₃ => ?_) fun _ _ X => X.step kp₂ gr₂))
      have rel₃ : LRel c wr Ω h₁ Ω₃ h₃ := by
        refine ⟨step rel₂ (fun _ z => List.mem_append_right _ z) k₃, fun a ha => ?_, fun x a e => g₃.1 x a (rel.2.2 x a e)⟩
        rcases g₃.2 a ha with z | z
        · exact rel.2.1 a z
        · by_cases hy : a ∈ c.Y Ω
          · exact .inl hy
          · refine .inr ?_
            cases e : h₁.get? a with
            | none => rfl
            | some o =>
              by_cases hw : a ∈ wr
              · obtain ⟨o', e'⟩ := hal _ _ hst₂ a hw
                have z' : h₂.get? a = none := z
                rw [z'] at e'; cases e'
              · obtain ⟨sl, e'⟩ := rel₂.1.there e (fun q => by rcases List.mem_append.mp q with q | q; exact hw q; exact hy q)
                have z' : h₂.get? a = none := z
                rw [z'] at e'; cases e'
      have hst₃ : Sv (i + 1) h₃ := hframe _ _ _ hst₂ fun b hb o e => k₃.off e (fun z => by
        rcases rel.2.1 b z with z | z
        · exact (hfp b hb).2.1 z
        · obtain ⟨o', e'⟩ := (hfp b hb).2.2; rw [z] at e'; cases e') (hfp b hb).1
      obtain ⟨kp₃, gr₃⟩ := fin rel₃
      obtain ⟨fl, φ₃⟩ := p
      cases fl with
      | next =>
        cases flow <;> first | exact hfl.elim | skip
        exact ⟨us.length + 1 - (i + 1), by omega, h₃, tk₃, φ₃, Ω₃, i + 1, rfl, hlt, rfl, hst₃, st₃, rel₃, Hp⟩
      | cont =>
        cases flow <;> first | exact hfl.elim | skip
        exact ⟨us.length + 1 - (i + 1), by omega, h₃, tk₃, φ₃, Ω₃, i + 1, rfl, hlt, rfl, hst₃, st₃, rel₃, Hp⟩
      | brk =>
        cases flow <;> first | exact hfl.elim | skip
        exact (show ExPost (prog, w) b0 c E Ω s Q (.next, φ₃) from Hp) .next h₃ tk₃ Ω₃ trivial kp₃ gr₃ st₃
      | ret d f =>
        cases flow <;> first | exact hfl.elim | skip
        exact (show ExPost (prog, w) b0 c E Ω s Q (.ret d f, φ₃) from Hp) _ h₃ tk₃ Ω₃ hfl kp₃ gr₃ st₃
    · cases rr with
      | none => exact h₁'.elim
      | some v => exact h₁'
  · have hin : i = us.length := by omega
    subst hin
    rw [List.drop_length] at Hi
    refine wpAny_mono (hdone φ' Ω' { s with heap := h', toks := tk } (fun s₁ => Q .next s₁) _ hst' st' rel fun h'' tk'' k'' st'' => ?_) (fun rr s₁ h₁' => ?_) fun _ _ x => x
    · obtain ⟨kp'', gr''⟩ := fin (Ω' := Ω') (h' := h'') ⟨step rel (fun _ z => z) k'', rel.2.1, rel.2.2⟩
      exact (show ExPost (prog, w) b0 c E Ω s Q (.next, φ') from Hi) .next h'' tk'' Ω' trivial kp'' gr'' st''
    · cases rr with
      | none => exact wpAny_execs_nil h₁'
      | some v => exact h₁'.elim
/-- objects that no slot can reach have changed -/
theorem StS.buts {P : Program × World} {h h' : Heap} {wr : List Addr} (st : StS P b0 c E φ Ω h) (hk : ∀ b o, b ∉ wr → h.get? b = some o → h'.get? b = some o) (hw : ∀ I ∈ wr, I ∉ c.Y Ω ∧ I ∉ c.fs ∧ I ∉ E ∧ b0.get? I = none ∧ ∀ o, h.get? I = some o → ¬ Held o) : StS P b0 c E φ Ω h' := by
  have up : ∀ ok : Addr → Prop, UpAt ok h h' := fun ok b o _ e hh' => hk b o (fun z => (hw b z).2.2.2.2 o e hh') e
  obtain ⟨m, cm, h1, h2, h3⟩ := st.st.loc
  refine ⟨⟨fun b o e => hk b o (fun z => by rw [(hw b z).2.2.2.1] at e; cases e) (st.st.stay b o e), ?_, ?_, ⟨m, cm, h1.at' (fun o e => hk _ o (fun z => (hw _ z).1 (own_Y (.head _))) e), fun y k e => ?_, fun y sl hl hy => ?_⟩, fun a ha => ?_, st.st.off⟩, st.nodup, st.dom, st.accE, st.apart⟩
  · exact ff_of st.st.ff fun b hb o e hd => ⟨o, hk b o (fun z => (hw b z).2.1 hb) e, hd⟩
  · intro b hb
    obtain ⟨o, e, hc⟩ := st.st.fc b hb
    exact ⟨o, hk b o (fun z => (hw b z).2.1 hb) e, hc⟩
  · obtain ⟨o, e', hd⟩ := h2 y k e
    exact ⟨o, hk k o (fun z => (hw k z).1 (own_Y (.tail _ (List.mem_map.mpr ⟨_, lookup_mem e, rfl⟩)))) e', hd⟩
  · have q := h3 y sl hl hy
    cases sl with
    | val d f =>
      obtain ⟨v, ev, rv⟩ := q
      exact ⟨v, ev, rv.mono (up _) fun b o hb e => hb⟩
    | acc ds =>
      obtain ⟨b, vs, q1, q2, q4, q5⟩ := q
      exact ⟨b, vs, q1, q2, q4.up fun o e _ => hk b o (fun z => (hw b z).1 (omega_Y q1)) e, q5.mono (up _) fun b o hb e => hb⟩
    | tab kvs =>
      obtain ⟨b, q1, q2, ps, ds, t1, t2, t3, t4, t5⟩ := q
      exact ⟨b, q1, q2, ps, ds, dict_up t1 (fun o e _ => hk b o (fun z => (hw b z).1 (omega_Y q1)) e), t2, t3.mono (up _) (fun b o hb e => hb), t4, t5⟩
    | gone => trivial
  · obtain ⟨o, e⟩ := st.st.alive a ha
    refine ⟨o, hk a o (fun z => ?_) e⟩
    rcases ha with ha | ha
    · exact (hw a z).2.2.1 ha
    · exact (hw a z).1 ha
theorem StS.but {P : Program × World} {h h' : Heap} {I : Addr} (st : StS P b0 c E φ Ω h) (hk : ∀ b o, b ∉ [I] → h.get? b = some o → h'.get? b = some o) (hY : I ∉ c.Y Ω) (hfs : I ∉ c.fs) (hE : I ∉ E) (hb : b0.get? I = none) (hh : ∀ o, h.get? I = some o → ¬ Held o) : StS P b0 c E φ Ω h' :=
  st.buts hk fun J hJ => by cases List.mem_singleton.mp hJ; exact ⟨hY, hfs, hE, hb, hh⟩
/-- a plain walk -/
theorem ex_for1 {x : String} {xp p : Pos} {iter : Expr} {body : List Stmt} {i : It} {is : List IS} (S : Stat (prog, w) b0 mg mb consts) (hE : SEv prog w b0 r n) (hX : SEx prog w b0 r n) (ok : c.Ok n) (hf : c.Fn) (hp : Passes prog w c Ex) (st : StS (prog, w) b0 c E φ Ω s.heap)
    (hn : LName c.env.scope x) (hs : i.simple = true) (hi : CI c.env.scope iter i) (hbody : CB c.env.scope body is) (H : G (exI r φ (.for1 x i is)) (ExPost (prog, w) b0 c E Ω s Q) (XPostS b0 c Ω s Ex)) :
    wpAny (model prog w) c.A (exec (.For (.Name (nm x) xp) iter body [] p) c.env) Q Ex s := by
  dsimp only [exI] at H
  refine wpAny_For (iter_sound S hE ok st.st hi hs (H.bind.mono (fun us _ Hus I h₁ tk₁ ds f e hlen k₁ hI src => ?_) fun _ _ X => X.now st.st)) fun v => hi.noSet _ v
  subst e
  obtain ⟨fp, Pv, Sv, W, hst, hfp, hheld, hPv⟩ := src
  have hIfp : I ∈ fp := W.sub I (.head _)
  have hIE : I ∉ E := fun z => by obtain ⟨o, e⟩ := st.st.alive I (.inl z); rw [hI] at e; cases e
  have hIb : b0.get? I = none := by
    cases e : b0.get? I with
    | none => rfl
    | some o => rw [st.st.stay I o e] at hI; cases hI
  have hIY : ∀ Ω', (∀ a ∈ c.Y Ω', a ∈ c.Y Ω ∨ h₁.get? a = none) → I ∉ c.Y Ω' := fun Ω' hr z => by
    rcases hr I z with z | z
    · exact (hfp I hIfp).2.1 z
    · obtain ⟨o, e⟩ := (hfp I hIfp).2.2; rw [z] at e; cases e
  have hlenu : (ds.map fun d => (d, f)).length = ds.length := List.length_map ..
  refine loop_sound (fp := fp) (wr := [I]) (Sv := Sv) hX ok hf hp st k₁ hst hfp (fun b hb => by rw [List.mem_singleton] at hb; subst hb; exact ⟨hI, hIfp⟩) (fun i h hv b hb => by rw [List.mem_singleton] at hb; subst hb; obtain ⟨o, e, _⟩ := hheld i h hv; exact ⟨o, e⟩) W.frame hbody ?_ ?_ Hus
  · intro j u φ' Ω' s' QU E' hu hstj stj rel hb
    have hj : j < ds.length := by
      have := (List.getElem?_eq_some_iff.mp hu).1
      rw [hlenu] at this; exact this
    refine W.item j _ _ _ hj hstj fun v h₂ tk₂ hv hst₂ hk₂ => ?_
    obtain ⟨d, hd, rd⟩ := hPv j v hv
    have hu' : u = (d, f) := by
      rw [List.getElem?_map, hd] at hu
      exact (Option.some.inj hu).symm
    subst hu'
    have st₂ := stj.but (h' := h₂) (I := I) hk₂ (hIY Ω' rel.2.1) (hfp I hIfp).1 hIE hIb fun o e => by obtain ⟨o', e', nh⟩ := hheld j _ hstj; rw [e] at e'; cases e'; exact nh
    refine wpAny_pure ?_
    have rv : R (prog, w) (fun a => f = true → a ∉ E ∧ a ∉ c.Y Ω') h₂ v d := by
      refine (rd.mono (ok' := fun a => f = true → a ∉ E ∧ a ∉ c.Y Ω') (h' := s'.heap) (fun b o hb e hh => rel.1.same e (fun z => ?_) hh.noFrame) fun b o hb e hf => ⟨hb.1 hf, fun z => ?_⟩).mono (fun b o _ e hh => hk₂ b o (fun z => ?_) e) fun _ _ x _ => x
      · rcases List.mem_append.mp z with z | z
        · rw [List.mem_singleton] at z
          obtain ⟨o', e', nh⟩ := hheld 0 h₁ hst
          rw [z, e'] at e; cases e; exact nh hh
        · exact hb.2 z
      · rcases rel.2.1 b z with z | z
        · exact hb.2 z
        · rw [z] at e; cases e
      · rw [List.mem_singleton] at z
        obtain ⟨o', e', nh⟩ := hheld j _ hstj
        rw [z, e'] at e; cases e; exact nh hh
    obtain ⟨rv, hb⟩ := (G.bind (res := fzV (d, f)) hb).fz rv
    refine wpAny_assign_Name (put_val (s := { s' with heap := h₂, toks := tk₂ }) ok st₂ hn .refl rv fun h₃ tk₃ k₃ st₃ => hb h₃ tk₃ ?_ ?_ st₃)
    · exact W.frame _ _ _ hst₂ fun b hb o e => k₃.off e (fun z => by
        rcases rel.2.1 b z with z | z
        · exact (hfp b hb).2.1 z
        · obtain ⟨o', e'⟩ := (hfp b hb).2.2; rw [z] at e'; cases e') (hfp b hb).1
    · exact (show Kp c.fs ([I] ++ c.Y Ω') s'.heap h₂ from fun b o e hb => .inl (hk₂ b o (fun z => hb (List.mem_append_left _ z)) e)).trans (k₃.weak fun _ z => List.mem_append_right _ z)
  · intro φ' Ω' s' QN E' hstj stj rel hq
    rw [hlenu] at hstj
    refine W.done _ _ _ hstj fun h₂ tk₂ hk₂ => hq h₂ tk₂ (fun b o e hb => .inl (hk₂ b o (fun z => hb (List.mem_append_left _ z)) e)) ?_
    exact stj.but (I := I) hk₂ (hIY Ω' rel.2.1) (hfp I hIfp).1 hIE hIb fun o e => by obtain ⟨o', e', nh⟩ := hheld _ _ hstj; rw [e] at e'; cases e'; exact nh
end
end Mine
end

section
set_option Elab.async false
namespace Mine
open PySem PySem.W PySem.Calls PyProof.Rows

section
variable {prog : Program} {w : World} {b0 : Heap} {mg mb : PySem.Str → Option Value} {consts : String → Option V} {r : Rec} {n : Nat} {c : Cx} {E : List Addr} {φ : Frm} {Ω Ω' : List (String × Addr)} {s : Shared} {Q : Flow → Shared → Prop} {QU : Unit → Shared → Prop} {Ex : Value → Shared → Prop} {A : Around}

/-- `for x in t: y = x; break` -/
theorem ex_pickFirst {x y t : String} {xp tp yp xp' p1 bp p : Pos} (ok : c.Ok n) (hp : Passes prog w c Ex) (st : StS (prog, w) b0 c E φ Ω s.heap) (hx : LName c.env.scope x) (hy : LName c.env.scope y) (ht : LName c.env.scope t)
    (H : G (exI r φ (.pickFirst x y t)) (ExPost (prog, w) b0 c E Ω s Q) (XPostS b0 c Ω s Ex)) : wpAny (model prog w) c.A (exec (.For (.Name (nm x) xp) (.Name (nm t) tp) [.Assign [.Name (nm y) yp] (.Name (nm x) xp') p1, .Break bp] [] p) c.env) Q Ex s := by
  dsimp only [exI] at H
  obtain ⟨kvs, hl, H⟩ := G.onTab H
  refine wpAny_For (tab_at ok st.st ht hl fun a ha _ => ?_) fun v => rfl
  obtain ⟨a', ps, ha', hD, hlo, hpr, hz⟩ := st.tab ht hl
  rw [ha] at ha'; cases ha'
  obtain ⟨ep, hat⟩ := hD.dictAt
  refine wpAny_pyIter_dict hlo hat ?_
  have hlt : a < s.heap.objs.size := hat.lt_size
  generalize hh₁ : s.heap.push { cls := .type "dict_keyiterator", data := .fields #[.ref a, .int 0 0, .int ps.length 0, .int ep 0] } = h₁
  have k₁ : Kp c.fs [] s.heap h₁ := by rw [← hh₁]; exact push_kp _
  have hIter : h₁.IsKeyIter s.heap.objs.size a 0 ps.length ep := by rw [← hh₁]; exact ⟨_, Heap.get?_push_size _ rfl, rfl, rfl⟩
  have hat₁ : h₁.DictAt (strKind prog w) a ps ep := by rw [← hh₁]; exact hat.push _
  have W := Walks.dictKeys (prog := prog) (w := w) (knd := strKind prog w) ok.handled s.heap.objs.size a (Nat.ne_of_lt hlt) ps ep
  have fr := st.st.fresh (Nat.le_refl _)
  have frf := st.st.new_fs (Nat.le_refl _)
  have st₁ := st.kp k₁
  have hIb : b0.get? s.heap.objs.size = none := by
    cases e : b0.get? s.heap.objs.size with
    | none => rfl
    | some o => exact absurd (Heap.lt_size (st.st.stay _ o e)) (Nat.lt_irrefl _)
  have nh : ∀ o, h₁.get? s.heap.objs.size = some o → ¬ Held o := fun o e => by
    obtain ⟨o', e', hc, _⟩ := hIter
    rw [e'] at e; cases e
    exact notHeld hc (by decide) (by decide) (by decide)
  refine codeAny_forLoop (fun k s' => k = 1 ∧ s' = { s with heap := h₁ }) ?_ 1 ⟨rfl, rfl⟩
  rintro k s' ⟨rfl, rfl⟩
  have kI : ∀ {h₂ : Heap}, (∀ b o, b ∉ [s.heap.objs.size] → h₁.get? b = some o → h₂.get? b = some o) → Kp c.fs (c.Y Ω) s.heap h₂ := fun {h₂} hk => by
    refine (k₁.weak fun _ z => nomatch z).trans' (Y' := [s.heap.objs.size]) (fun b o e hb => .inl (hk b o hb e)) fun b o e hb => ?_
    rw [List.mem_singleton] at hb; exact absurd (Heap.lt_size e) (by rw [hb]; exact Nat.lt_irrefl _)
  cases kvs with
  | nil =>
    cases ps with
    | cons p ps => exact nomatch hpr
    | nil =>
      refine W.done { s with heap := h₁ } _ _ ⟨hIter, hat₁⟩ fun h₂ tk₂ hk₂ => wpAny_execs_nil ?_
      exact (show ExPost (prog, w) b0 c E Ω s Q (.next, φ) from H) .next h₂ tk₂ Ω trivial (kI hk₂) .refl (st₁.but hk₂ fr.2 frf fr.1 hIb nh)
  | cons q kvs =>
    cases hpr with
    | cons rv hpr =>
      rename_i k0 v0 d0 ps _
      obtain ⟨hne, Hq⟩ := G.need (p := x ≠ t ∧ y ≠ t) H
      refine W.item 0 { s with heap := h₁ } _ _ (Nat.succ_pos _) ⟨hIter, hat₁⟩ fun v h₂ tk₂ hv _ hk₂ => ?_
      obtain ⟨k', x', e1, e2⟩ := hv
      cases e1
      obtain ⟨tkk, rfl⟩ := key_shape e2
      have hkl : k0.length ≤ sizeLine := hz.2 (k0, v0) (.head _)
      have st₂ := st₁.but (h' := h₂) hk₂ fr.2 frf fr.1 hIb nh
      refine wpAny_assign_Name (put_val (s := { s with heap := h₂, toks := tk₂ }) ok st₂ hx .refl (.str k0 tkk hkl) fun h₃ tk₃ k₃ st₃ => ?_)
      refine wpAny_execs_cons (wpAny_Assign_Name ?_ rfl)
      obtain ⟨m, cm, l1, l2, l3⟩ := st₃.st.loc
      obtain ⟨vx, ex, rx⟩ := l3 x (.val (.str k0) true) (by rw [upd_lookup, if_pos rfl]) hx
      obtain ⟨tx, rfl, _⟩ := rx.inv_str
      refine ld_at (s := { s with heap := h₃, toks := tk₃ }) ok hx l1 l2 ex ?_
      refine put_val (s := { s with heap := h₃, toks := tk₃ }) ok st₃ hy .refl (.str k0 tx hkl) fun h₄ tk₄ k₄ st₄ => ?_
      refine wpAny_execs_cons (wpAny_Break ?_)
      exact (show ExPost (prog, w) b0 c E Ω s Q (.next, upd y (.val (.str k0) true) (upd x (.val (.str k0) true) φ)) from Hq) .next h₄ tk₄ Ω trivial (((kI hk₂).trans k₃).trans k₄) .refl st₄
end
end Mine
end

section
set_option Elab.async false
set_option maxRecDepth 100000
namespace Mine
open PySem PySem.W PySem.Calls PyProof.Rows
open AutoSeq1 (wpAny_loadPart')

theorem typeCall_enum2 (a b : Value) : checkTypeCall "enumerate" ⟨[a, b], []⟩ = pure () := by kernel_rfl
theorem newCall_enum2 (a b : Value) : checkBuiltinCall "enumerate.__new__" ⟨[.type "enumerate", a, b], []⟩ = pure () := by kernel_rfl
theorem meets_enum2 (l : Addr) (items : Array Value) (n : Nat) (dct : Option Addr) (sl : Array (Option Value)) (t : Tok) :
    Meets (Builtin.«enumerate.__new__» ⟨[.type "enumerate", .ref l, .int 1 t], []⟩) (fun _ R s => s.heap.get? l = some { cls := .type "list", dict := dct, data := .seq items n, slots := sl } ∧
      R (.ok (.ret (.ref (s.heap.push { cls := .type "list_iterator", data := .fields #[.ref l, .int 0 0] }).objs.size)))
        { s with heap := (s.heap.push { cls := .type "list_iterator", data := .fields #[.ref l, .int 0 0] }).push { cls := .type "enumerate", data := .fields #[.none, .bool false, .ref s.heap.objs.size, rawInt 1, .none, .none] } }) :=
  .of_wp fun prog w A R s h => by
    obtain ⟨hp, g, d, tk, os⟩ := s; obtain ⟨hl, h⟩ := h
    have hsub := sub_enumerate
    have hL : Heap.IsList (Shared.heap ⟨hp, g, d, tk, os⟩) l items := ⟨_, hl, rfl, n, rfl⟩
    wp_walk using wpAny_loadPart' hl
    refine wpAny_stack_any fun st => wpAny_pure ?_
    split
    · rename_i c _ _ _ _ _
      cases (c == Value.type "enumerate")
      · wp_walk using wpAny_loadPart' hl, wpAny_pyIter_list hL
        exact ⟨_, rfl, h⟩
      · wp_walk using wpAny_loadPart' hl, wpAny_pyIter_list hL
        exact ⟨_, rfl, h⟩
    · wp_walk using wpAny_loadPart' hl, wpAny_pyIter_list hL
      exact ⟨_, rfl, h⟩
section
variable {prog : Program} {w : World} {A : Around} {E : Value → Shared → Prop} {s : Shared}
theorem call_enum2 {l : Addr} {items : Array Value} {t : Tok} {Q : Value → Shared → Prop} (hL : s.heap.IsList l items)
    (h : ∀ h', IsEnum h' (s.heap.objs.size + 1) s.heap.objs.size 1 .none → h'.IsListIter s.heap.objs.size l 0 → h'.objs.size = s.heap.objs.size + 2 →
      (∀ b o, s.heap.get? b = some o → h'.get? b = some o) → Q (.ref (s.heap.objs.size + 1)) { s with heap := h' }) :
    wpAny (model prog w) A (call (.type "enumerate") [.ref l, .int 1 t]) Q E s := by
  obtain ⟨⟨c, dct, dt, sl⟩, hl, hc, n, hd⟩ := hL
  replace hc : c = .type "list" := hc
  replace hd : dt = .seq items n := hd
  subst hc hd
  refine callType_new F.called_enumerate (by decide) (typeCall_enum2 _ _) (newCall_enum2 _ _) (fun obj => F.initArgs_range_2 obj _ _) F.entry_enumerate_new (meets_enum2 l items n dct sl t) ⟨hl, ?_⟩
  have hz : (s.heap.push { cls := .type "list_iterator", data := .fields #[.ref l, .int 0 0] }).objs.size = s.heap.objs.size + 1 := Heap.size_push ..
  show _ ∧ _
  rw [hz]
  have he : IsEnum ((s.heap.push { cls := .type "list_iterator", data := .fields #[.ref l, .int 0 0] }).push
      { cls := .type "enumerate", data := .fields #[.none, .bool false, .ref s.heap.objs.size, rawInt 1, .none, .none] }) (s.heap.objs.size + 1) s.heap.objs.size 1 .none := by
    have := Heap.get?_push_size (s.heap.push { cls := .type "list_iterator", data := .fields #[.ref l, .int 0 0] })
      (o := { cls := .type "enumerate", data := .fields #[.none, .bool false, .ref s.heap.objs.size, rawInt 1, .none, .none] }) rfl
    rw [hz] at this; exact this
  refine ⟨⟨_, he, rfl⟩, h _ he ⟨_, Heap.get?_push_of_some _ (Heap.get?_push_size _ rfl), rfl, rfl⟩ (by rw [Heap.size_push, hz]) fun b o x => Heap.get?_push_of_some _ (Heap.get?_push_of_some _ x)⟩
/-- the next pair, whatever number stands first -/
theorem enum_item {e it l : Addr} {i : Nat} {j : Int} {items : Array Value} {x old : Value} {Q : Value → Shared → Prop}
    (he : IsEnum s.heap e it j old) (hit : s.heap.IsListIter it l i) (hl : s.heap.IsList l items) (hx : items[i]? = some x) (hne : e ≠ it)
    (hQ : ∀ h', IsEnumOut h' e it (j + 1) x s.heap.objs.size → h'.IsListIter it l (i + 1) →
      h'.get? s.heap.objs.size = some { cls := .type "tuple", data := .seq #[.int j s.toks, x] } →
      (∀ b o, b ≠ e → b ≠ it → s.heap.get? b = some o → h'.get? b = some o) → Q (.ref s.heap.objs.size) { s with heap := h', toks := s.toks + 1 }) :
    wpAny (model prog w) A (Builtin.«enumerate.__next__» ⟨[.ref e], []⟩) (fun fin s' => ∃ v, fin = .done (.ret v) ∧ Q v s') E s := by
  obtain ⟨hp, g, d, tk, os⟩ := s
  show wpAny _ _ (field (.ref e) 2 >>= _) _ _ _
  refine wpAny_bind (wpAny_field he rfl (x := .ref it) rfl ?_)
  refine wpAny_bind (wpAny_nextOf_list_item hit hl hx fun h₁ hit₁ hs₁ => ?_)
  replace hs₁ : Heap.SameBut it hp h₁ := hs₁
  have he₁ : IsEnum h₁ e it j old := (hs₁.2 e hne).trans he
  show wpAny _ _ (field (.ref e) 3 >>= _) _ _ ⟨h₁, g, d, tk, os⟩
  refine wpAny_bind (wpAny_field he₁ rfl (x := rawInt j) rfl ?_)
  show wpAny _ _ (field (.ref e) 4 >>= _) _ _ ⟨h₁, g, d, tk, os⟩
  refine wpAny_bind (wpAny_field he₁ rfl (x := .none) rfl ?_)
  show wpAny _ _ (mkInt j >>= _) _ _ ⟨h₁, g, d, tk, os⟩
  refine wpAny_bind (wpAny_mkInt ?_)
  show wpAny _ _ (setField (.ref e) 3 (rawInt (j + 1)) >>= _) _ _ ⟨h₁, g, d, tk + 1, os⟩
  refine wpAny_bind (wpAny_setField_rec he₁ (by simp) fun h₂ he₂ hs₂ => ?_)
  replace hs₂ : Heap.SameBut e h₁ h₂ := hs₂
  replace he₂ : IsEnum h₂ e it (j + 1) old := he₂
  show wpAny _ _ (setField (.ref e) 4 .none >>= _) _ _ ⟨h₂, g, d, tk + 1, os⟩
  refine wpAny_bind (wpAny_setField_rec he₂ (by simp) fun h₃ he₃ hs₃ => ?_)
  replace hs₃ : Heap.SameBut e h₂ h₃ := hs₃
  replace he₃ : IsEnum h₃ e it (j + 1) old := he₃
  show wpAny _ _ (newTuple [.int j tk, x] >>= _) _ _ ⟨h₃, g, d, tk + 1, os⟩
  refine wpAny_bind (wpAny_newTuple ?_)
  have he₄ : IsEnum (h₃.push { cls := .type "tuple", data := .seq #[.int j tk, x] }) e it (j + 1) old := Heap.get?_push_of_some _ he₃
  generalize hh₄ : h₃.push { cls := .type "tuple", data := .seq #[.int j tk, x] } = h₄ at he₄
  have hsz : h₃.objs.size = hp.objs.size := by rw [hs₃.1, hs₂.1, hs₁.1]
  have hel : e < hp.objs.size := Heap.lt_size he
  have ht₄ : h₄.get? hp.objs.size = some { cls := .type "tuple", data := .seq #[.int j tk, x] } := by rw [← hh₄, ← hsz]; exact Heap.get?_push_size _ rfl
  have hk₄ : ∀ b o, b ≠ e → b ≠ it → hp.get? b = some o → h₄.get? b = some o := fun b o hbe hbi hb => by
    rw [← hh₄]; exact Heap.get?_push_of_some _ (hs₃.extBut b o hbe (hs₂.extBut b o hbe (hs₁.extBut b o hbi hb)))
  have hit₄ : h₄.IsListIter it l (i + 1) := by
    rw [← hh₄]; obtain ⟨o, ho, r⟩ := (hit₁.extBut hs₂.extBut (Ne.symm hne)).extBut hs₃.extBut (Ne.symm hne); exact ⟨o, Heap.get?_push_of_some _ ho, r⟩
  show wpAny _ _ (Builtin.SmallTypes.ownedTupleIsFree (.ref e) >>= _) _ _ ⟨h₄, g, d, tk + 1, os⟩
  rw [hsz]
  clear hh₄ he₃ hs₃ he₂ hs₂ he₁ hs₁ hit₁ hsz h₃ h₂ h₁
  refine wpAny_bind ?_
  · unfold Builtin.SmallTypes.ownedTupleIsFree
    refine wpAny_bind (wpAny_field he₄ rfl (x := .none) rfl (wpAny_pure ?_))
    simp only [if_true]
    refine wpAny_bind (wpAny_rule ?_)
    refine wpAny_bind (wpAny_field he₄ rfl (x := old) rfl ?_)
    refine wpAny_bind (wpAny_setField_rec he₄ (by simp) fun h₅ he₅ hs₅ => ?_)
    replace hs₅ : Heap.SameBut e h₄ h₅ := hs₅
    replace he₅ : IsEnum h₅ e it (j + 1) x := he₅
    show wpAny _ _ (Builtin.SmallTypes.ownedTupleHandOut (.ref e) (.ref hp.objs.size) >>= _) _ _ ⟨h₅, g, d, tk + 1, os⟩
    refine wpAny_bind ?_
    · unfold Builtin.SmallTypes.ownedTupleHandOut
      refine wpAny_bind (wpAny_setField_rec he₅ (by simp) fun h₆ he₆ hs₆ => ?_)
      replace hs₆ : Heap.SameBut e h₅ h₆ := hs₆
      replace he₆ : IsEnumOut h₆ e it (j + 1) x hp.objs.size := he₆
      refine wpAny_setField_rec he₆ (by simp) fun h₇ he₇ hs₇ => ?_
      replace hs₇ : Heap.SameBut e h₆ h₇ := hs₇
      replace he₇ : IsEnumOut h₇ e it (j + 1) x hp.objs.size := he₇
      refine wpAny_bind (wpAny_letGo (wpAny_pure ⟨_, rfl, hQ h₇ he₇ ?_ ?_ ?_⟩))
      · exact ((hit₄.extBut hs₅.extBut (Ne.symm hne)).extBut hs₆.extBut (Ne.symm hne)).extBut hs₇.extBut (Ne.symm hne)
      · exact hs₇.extBut _ _ (Nat.ne_of_gt hel) (hs₆.extBut _ _ (Nat.ne_of_gt hel) (hs₅.extBut _ _ (Nat.ne_of_gt hel) ht₄))
      · exact fun b o hbe hbi hb => hs₇.extBut b o hbe (hs₆.extBut b o hbe (hs₅.extBut b o hbe (hk₄ b o hbe hbi hb)))
theorem enum_next {e it l : Addr} {i : Nat} {j : Int} {items : Array Value} {x old : Value} {Q : Option Value → Shared → Prop}
    (he : IsEnum s.heap e it j old) (hit : s.heap.IsListIter it l i) (hl : s.heap.IsList l items) (hx : items[i]? = some x) (hne : e ≠ it)
    (hQ : ∀ h', IsEnumOut h' e it (j + 1) x s.heap.objs.size → h'.IsListIter it l (i + 1) →
      h'.get? s.heap.objs.size = some { cls := .type "tuple", data := .seq #[.int j s.toks, x] } →
      (∀ b o, b ≠ e → b ≠ it → s.heap.get? b = some o → h'.get? b = some o) → Q (some (.ref s.heap.objs.size)) { s with heap := h', toks := s.toks + 1 }) :
    wpAny (model prog w) A (pyNext (.ref e)) Q E s := by
  have hT : s.TypeIs (.ref e) "enumerate" := ⟨_, he, rfl⟩
  unfold pyNext
  exact wpAny_bind (wpAny_attempt (wpAny_callSpecial?_slot (name := PySem.Str.ofString "__next__") hT F.slot_enumerate_next
    (wpAny_call_entry F.slot_enumerate_next hT F.entry_enumerate_next
      (enum_item he hit hl hx hne fun h' a b c k => wpAny_pure (hQ h' a b c k)) (F.args_enumerate_next_1 _))))
theorem enum_end {e it l : Addr} {i : Nat} {j : Int} {items : Array Value} {old : Value} {Q : Option Value → Shared → Prop} (hh : A.handled = none)
    (he : IsEnum s.heap e it j old) (hit : s.heap.IsListIter it l i) (hl : s.heap.IsList l items) (hx : items[i]? = none)
    (hQ : ∀ h', Heap.ExtBut it s.heap h' → Q none { s with heap := h' }) : wpAny (model prog w) A (pyNext (.ref e)) Q E s := by
  have hT : s.TypeIs (.ref e) "enumerate" := ⟨_, he, rfl⟩
  unfold pyNext
  refine wpAny_bind (wpAny_attempt (wpAny_callSpecial?_slot (name := PySem.Str.ofString "__next__") hT F.slot_enumerate_next
    (wpAny_call_entry F.slot_enumerate_next hT F.entry_enumerate_next ?_ (F.args_enumerate_next_1 _))))
  show wpAny _ _ (field (.ref e) 2 >>= _) _ _ _
  refine wpAny_bind (wpAny_field he rfl (x := .ref it) rfl ?_)
  refine wpAny_bind (wpAny_nextOf_list_end hh hit hl hx fun h' x he' hx' => ?_)
  obtain ⟨o, ho, hc⟩ := hx'
  refine wpAny_bind (wpAny_isInstance (T := "StopIteration") (b := true) ⟨o, ho, hc⟩ isSubtype_stop ?_)
  exact wpAny_pure (hQ _ he')
end
end Mine
end

section
set_option Elab.async false
namespace Mine
open PySem PySem.W PySem.Calls PyProof.Rows

section
variable {prog : Program} {w : World} {b0 : Heap} {mg mb : PySem.Str → Option Value} {consts : String → Option V} {r : Rec} {n : Nat} {c : Cx} {E : List Addr} {φ : Frm} {Ω Ω' : List (String × Addr)} {s : Shared} {Q : Flow → Shared → Prop} {QU : Unit → Shared → Prop} {Ex : Value → Shared → Prop} {A : Around}

theorem ex_forE {x y : String} {xp yp tp np cp ip p : Pos} {k ck : Nat} {e : Expr} {body : List Stmt} {i : IE} {is : List IS} (S : Stat (prog, w) b0 mg mb consts) (hE : SEv prog w b0 r n) (hX : SEx prog w b0 r n) (ok : c.Ok n) (hf : c.Fn) (hp : Passes prog w c Ex) (st : StS (prog, w) b0 c E φ Ω s.heap)
    (hx : LName c.env.scope x) (hy : LName c.env.scope y) (hxy : x ≠ y) (hg : GName c.env.scope "enumerate") (he : CE c.env.scope e i) (hb : CB c.env.scope body is) (H : G (exI r φ (.forN [x, y] (.enum i) is)) (ExPost (prog, w) b0 c E Ω s Q) (XPostS b0 c Ω s Ex)) :
    wpAny (model prog w) c.A (exec (.For (.Tuple [.Name (nm x) xp, .Name (nm y) yp] k tp) (.Call (.Name (nm "enumerate") np) [e, .Constant (.int 1) ck cp] [] ip) body [] p) c.env) Q Ex s := by
  dsimp only [exI, iterI] at H
  have hcn : CNs c.env.scope [.Name (nm x) xp, .Name (nm y) yp] [x, y] := .cons hx (by rw [List.mem_singleton]; exact hxy) (.cons hy (fun z => nomatch z) .nil)
  refine wpAny_For (Call_ (ld_boot S ok st.st hg (S.free _ (by decide)) boot_enum (by decide) (callWith_type1 ?_ (he.star _ _) rfl))) fun v => rfl
  refine args_cons ?_ (he.star _ _)
  refine evIt_sound hE ok st.st he (H.bind.bind.mono (fun u _ Hu v h₀ tk₀ k₀ r₀ => args_cons (wpAny_Constant_int (args_nil ?_)) rfl) fun _ _ X => X.now st.st)
  obtain ⟨l, vs, ds, rfl, hl0, la, ra, Hu⟩ := Hu.rList r₀
  obtain ⟨hlim, Hq⟩ := Hu.need
  · generalize u.2 = f at Hq hl0 ra
    have Hq' : G (loopG r (bndN [x, y]) is φ (ds.zipIdx.map fun p => (V.tuple [.int ((p.2 : Int) + 1), p.1], f))) (ExPost (prog, w) b0 c E Ω s Q) (XPostS b0 c Ω s Ex) := Hq
    obtain ⟨ol, kl, el, hcl, hdl, hszl⟩ := id la
    have st₀ := st.st.kp k₀
    refine call_enum2 (s := { s with heap := h₀, toks := tk₀ + 1 }) la.isList fun h₁ hen hit hsz₁ hk₁ => ?_
    refine wpAny_pyIter_enum hen ?_
    generalize hite : ({ s with heap := h₀, toks := tk₀ + 1 } : Shared).heap.objs.size = it at hen hit hsz₁
    have hite' : h₀.objs.size = it := hite
    have hlit : l < it := by rw [← hite']; exact Heap.lt_size el
    have k₁ : Kp c.fs [] s.heap h₁ := k₀.trans (.of_keeps hk₁)
    have fr : ∀ b, it ≤ b → b ∉ E ∧ b ∉ c.Y Ω ∧ b ∉ c.fs ∧ s.heap.get? b = none ∧ b0.get? b = none := fun b hb => by
      have h1 := st₀.fresh (a := b) (by omega)
      have h2 : s.heap.get? b = none := none_back k₀ (gone_of_le (by omega))
      refine ⟨h1.1, h1.2, st₀.new_fs (by omega), h2, ?_⟩
      cases q : b0.get? b with
      | none => rfl
      | some o => rw [st.st.stay b o q] at h2; cases h2
    have hL₁ : h₁.IsList l vs.toArray := ⟨ol, hk₁ l ol el, hcl, kl, hdl⟩
    have hnotE : ∀ {h : Heap} {j old}, IsEnum h (it + 1) it j old → ∀ o, h.get? (it + 1) = some o → ¬ Held o := fun {h j old} q o e => by
      rw [q] at e; cases e; exact notHeld rfl (by decide) (by decide) (by decide)
    have hnotI : ∀ {h : Heap} {i}, h.IsListIter it l i → ∀ o, h.get? it = some o → ¬ Held o := fun {h i} q o e => by
      obtain ⟨o', e', hc, _⟩ := q; rw [e'] at e; cases e; exact notHeld hc (by decide) (by decide) (by decide)
    have hge : ∀ I ∈ [it + 1, it], it ≤ I := fun I hI => by
      rcases List.mem_cons.mp hI with rfl | hI
      · exact Nat.le_succ _
      · rw [List.mem_singleton] at hI; rw [hI]; exact Nat.le_refl _
    have hne1 : it + 1 ≠ it := Nat.succ_ne_self it
    have hlnot : l ∉ [it + 1, it] := fun z => Nat.not_lt.mpr (hge l z) hlit
    have hwrel : ∀ Ω', (∀ a ∈ c.Y Ω', a ∈ c.Y Ω ∨ h₁.get? a = none) → ∀ I ∈ [it + 1, it], I ∉ c.Y Ω' := fun Ω' hr I hI z => by
      have hI0 := hI
      have hal : ∃ o, h₁.get? I = some o := by
        simp at hI
        rcases hI with rfl | rfl
        · exact ⟨_, hen⟩
        · obtain ⟨o, e, _⟩ := hit; exact ⟨o, e⟩
      rcases hr I z with z | z
      · exact (fr I (hge I hI0)).2.1 z
      · obtain ⟨o, e⟩ := hal; rw [z] at e; cases e
    have hen0 : IsEnum h₁ (it + 1) it (((0 : Nat) : Int) + 1) .none := by rw [show (((0 : Nat) : Int) + 1) = 1 from rfl]; exact hen
    refine loop_sound (s := s) (tk₁ := tk₀ + 1) (fp := [it + 1, it, l]) (wr := [it + 1, it]) (Sv := fun i h => (∃ old, IsEnum h (it + 1) it ((i : Int) + 1) old) ∧ h.IsListIter it l i ∧ h.IsList l vs.toArray) hX ok hf hp st k₁ ⟨⟨_, hen0⟩, hit, hL₁⟩ (fun b hb => ?_) (fun b hb => ?_) (fun i h hv b hb => ?_) (fun i h h' hv hk => ?_) hb ?_ ?_ Hq'
    · simp at hb
      rcases hb with rfl | rfl | rfl
      · exact ⟨(fr _ (by omega)).2.2.1, (fr _ (by omega)).2.1, _, hen⟩
      · obtain ⟨o, e, _⟩ := hit; exact ⟨(fr _ (Nat.le_refl _)).2.2.1, (fr _ (Nat.le_refl _)).2.1, o, e⟩
      · exact ⟨st₀.off_fs el hcl (by decide), hl0.2, _, hk₁ _ ol el⟩
    · simp at hb
      rcases hb with rfl | rfl
      · exact ⟨(fr _ (by omega)).2.2.2.1, by simp⟩
      · exact ⟨(fr _ (Nat.le_refl _)).2.2.2.1, by simp⟩
    · obtain ⟨⟨old, q1⟩, q2, _⟩ := hv
      simp at hb
      rcases hb with rfl | rfl
      · exact ⟨_, q1⟩
      · obtain ⟨o, e, _⟩ := q2; exact ⟨o, e⟩
    · obtain ⟨⟨old, q1⟩, q2, q3⟩ := hv
      exact ⟨⟨old, hk _ (by simp) _ q1⟩, q2.at fun o e => hk it (by simp) o e, q3.at fun o e => hk l (by simp) o e⟩
    · intro j u φ' Ω' s' QU E' hu hv st' rel hbnd
      obtain ⟨⟨old, q1⟩, q2, q3⟩ := hv
      rw [List.getElem?_map] at hu
      cases hz : ds.zipIdx[j]? with
      | none => rw [hz] at hu; cases hu
      | some pz =>
        rw [hz] at hu
        have hu' := Option.some.inj hu
        rw [List.getElem?_zipIdx] at hz
        cases hdj : ds[j]? with
        | none => rw [hdj] at hz; cases hz
        | some dj =>
          rw [hdj] at hz
          cases hz
          subst hu'
          obtain ⟨vj, hvj, rvj⟩ := ra.get hdj
          have hjnat : ((0 + j : Nat) : Int) + 1 = (j : Int) + 1 := by omega
          refine enum_next q1 q2 q3 (show vs.toArray[j]? = some vj by simpa using hvj) hne1 fun h₂ o2 i2 t2 kk2 => ?_
          refine wpAny_letOwnedTupleGo_enum o2 fun h₃ e3 s3 => ?_
          have hTe : s'.heap.objs.size ≠ it + 1 := Nat.ne_of_gt (Heap.lt_size q1)
          have hTi : s'.heap.objs.size ≠ it := by obtain ⟨o, e, _⟩ := q2; exact Nat.ne_of_gt (Heap.lt_size e)
          have hk3 : ∀ b o, b ∉ [it + 1, it] → s'.heap.get? b = some o → h₃.get? b = some o := fun b o hb e => (s3.2 b fun z => hb (by simp [z])).trans (kk2 b o (fun z => hb (by simp [z])) (fun z => hb (by simp [z])) e)
          have st₃ : StS (prog, w) b0 c E φ' Ω' h₃ := st'.buts (wr := [it + 1, it]) hk3 fun I hI => by
            refine ⟨hwrel Ω' rel.2.1 I hI, ?_, ?_, ?_, ?_⟩
            · exact (fr I (hge I hI)).2.2.1
            · exact (fr I (hge I hI)).1
            · exact (fr I (hge I hI)).2.2.2.2
            · simp at hI
              rcases hI with rfl | rfl
              · exact hnotE q1
              · exact hnotI q2
          have hT3 : IsTup h₃ s'.heap.objs.size [Value.int ((j : Int) + 1) s'.toks, vj].toArray := ⟨_, (s3.2 _ hTe).trans t2, rfl, _, rfl⟩
          have rv3 : R (prog, w) (fun a => f = true → a ∉ E ∧ a ∉ c.Y Ω') h₃ vj dj := by
            refine ((rvj.mono (ok' := fun a => (f = true → a ∉ E) ∧ a ∉ c.Y Ω) (h' := h₁) (keep_up hk₁) fun _ _ x _ => x).mono (ok' := fun a => f = true → a ∉ E ∧ a ∉ c.Y Ω') (h' := s'.heap) (fun b o hb e hh => rel.1.same e (fun z => ?_) hh.noFrame) fun b o hb e hf => ⟨hb.1 hf, fun z => ?_⟩).mono (fun b o _ e hh => hk3 b o (fun z => ?_) e) fun _ _ x _ => x
            · rcases List.mem_append.mp z with z | z
              · simp at z
                rcases z with rfl | rfl
                · exact hnotE hen o e hh
                · exact hnotI hit o e hh
              · exact hb.2 z
            · rcases rel.2.1 b z with z | z
              · exact hb.2 z
              · rw [z] at e; cases e
            · simp at z
              rcases z with rfl | rfl
              · exact hnotE q1 o e hh
              · exact hnotI q2 o e hh
          dsimp only at hbnd
          rw [hjnat] at hbnd
          refine unpack_sound (s := { s' with heap := h₃, toks := s'.toks + 1 }) ok ok.handled hcn st₃ hT3 (.cons (.int _ _) (.cons rv3 .nil)) (G.mono (res := updAll f [x, y] [.int ((j : Int) + 1), dj] φ') hbnd (fun φ'' _ hq h₄ tk₄ k₄ st₄ => hq h₄ tk₄ ?_ ?_ st₄) fun _ _ X => X)
          · have nY : ∀ b ∈ [it + 1, it, l], b ∉ c.Y Ω' ∧ b ∉ c.fs := fun b hb => by
              simp at hb
              rcases hb with rfl | rfl | rfl
              · exact ⟨hwrel Ω' rel.2.1 _ (by simp), (fr _ (by omega)).2.2.1⟩
              · exact ⟨hwrel Ω' rel.2.1 _ (by simp), (fr _ (Nat.le_refl _)).2.2.1⟩
              · refine ⟨fun z => ?_, st₀.off_fs el hcl (by decide)⟩
                rcases rel.2.1 _ z with z | z
                · exact hl0.2 z
                · rw [hk₁ _ ol el] at z; cases z
            have kk4 : ∀ b ∈ [it + 1, it, l], ∀ o, h₃.get? b = some o → h₄.get? b = some o := fun b hb o e => k₄.off e (nY b hb).1 (nY b hb).2
            have e3' : IsEnum h₃ (it + 1) it (((j + 1 : Nat) : Int) + 1) vj := by
              have := e3
              rw [show (((j + 1 : Nat) : Int) + 1) = ((j : Int) + 1) + 1 by omega]
              exact this
            exact ⟨⟨_, kk4 _ (by simp) _ e3'⟩, (i2.at fun o e => (s3.2 it hne1.symm).trans e).at fun o e => kk4 it (by simp) o e, (q3.at fun o e => hk3 l o hlnot e).at fun o e => kk4 l (by simp) o e⟩
          · exact (show Kp c.fs ([it + 1, it] ++ c.Y Ω') s'.heap h₃ from fun b o e hb => .inl (hk3 b o (fun z => hb (List.mem_append_left _ z)) e)).trans (k₄.weak fun _ z => List.mem_append_right _ z)
    · intro φ' Ω' s' QN E' hv st' rel hq
      obtain ⟨⟨old, q1⟩, q2, q3⟩ := hv
      have hlen : (ds.zipIdx.map fun p => (V.tuple [.int ((p.2 : Int) + 1), p.1], f)).length = vs.length := by rw [List.length_map, List.length_zipIdx, ra.length]
      rw [hlen] at q1 q2
      refine enum_end ok.handled q1 q2 q3 (by simp) fun h₂ hx => ?_
      have hk2 : ∀ b o, b ∉ [it + 1, it] → s'.heap.get? b = some o → h₂.get? b = some o := fun b o hb e => hx b o (fun z => hb (by simp [z])) e
      refine hq h₂ _ (fun b o e hb => .inl (hk2 b o (fun z => hb (List.mem_append_left _ z)) e)) (st'.buts hk2 fun I hI => ?_)
      refine ⟨hwrel Ω' rel.2.1 I hI, ?_, ?_, ?_, ?_⟩
      · exact (fr I (hge I hI)).2.2.1
      · exact (fr I (hge I hI)).1
      · exact (fr I (hge I hI)).2.2.2.2
      · simp at hI
        rcases hI with rfl | rfl
        · exact hnotE q1
        · exact hnotI q2
end
end Mine
end

section
set_option Elab.async false
namespace Mine
open PySem PySem.W PySem.Calls PyProof.Rows

theorem dropName_cls (name : PySem.Str) (o : Obj) : (o.dropName name).cls = o.cls := by
  obtain ⟨c, d, dt, sl⟩ := o
  cases dt with
  | dict es n =>
    dsimp only [Obj.dropName]
    first | rfl | (split <;> rfl)
  | _ => rfl
theorem dropName_data (name : PySem.Str) (o : Obj) (es : Array DictEntry) (n : Nat) (hd : o.data = .dict es n) : ∃ es' n', (o.dropName name).data = .dict es' n' := by
  obtain ⟨c, d, dt, sl⟩ := o
  subst hd
  dsimp only [Obj.dropName]
  first | exact ⟨_, _, rfl⟩ | (split <;> exact ⟨_, _, rfl⟩)
theorem dropName_alive' (name : PySem.Str) (o : Obj) (es : Array DictEntry) (n : Nat) (hd : o.data = .dict es n) : (o.dropName name).isFreed = false := by
  obtain ⟨es', n', h⟩ := dropName_data name o es n hd
  exact Obj.isFreed_of_dict h
theorem nsDel_cls {M : Model} {A : Around} {E : Value → Shared → Prop} {s : Shared} {a : Addr} {m : PySem.Str → Option Value} {name : PySem.Str} {Q : Bool → Shared → Prop} (hn : s.heap.Ns a m)
    (hQ : ∀ h' v, h'.Ns a (fun x => if x = name then v else m x) → Heap.SameBut a s.heap h' → (∀ o, s.heap.get? a = some o → ∃ o', h'.get? a = some o' ∧ o'.cls = o.cls ∧ ∀ vs, o'.data ≠ .fields vs) → Q (m name).isSome { s with heap := h' }) : wpAny M A (nsDel a name) Q E s := by
  have key : ∀ (Q : Bool → Shared → Prop), wpAny M A (nsDel a name) Q E s → wpAny M A (nsDel a name) (fun b s' => Q b s' ∧ ∃ h', s' = { s with heap := h' } ∧ ∀ o, s.heap.get? a = some o → ∃ o', h'.get? a = some o' ∧ o'.cls = o.cls ∧ ∀ vs, o'.data ≠ .fields vs) E s := by
    intro Q hq Γ p hΓ
    have hq' := hq Γ p hΓ
    obtain ⟨o, es, ep, ho, hd, hk, hm⟩ := id hn
    have hany : es.any (·.refKey) = false := by
      rw [Array.any_eq_false']; intro e he; obtain ⟨n, t, h⟩ := hk e he; simp [DictEntry.refKey, h]
    have hhas : nsHas name o = pure (es.any (·.key.isStr name)) := by
      rw [nsHas_eq]; unfold nsHasByArray; rw [hd]
      show (if (es.any fun x => x.key.isStr name) = true then _ else _) = _
      generalize (es.any fun x => x.key.isStr name) = b
      cases b <;> simp [hany]
    unfold nsDel at hq' ⊢
    simp only [Sem.wp_bind'] at hq' ⊢
    rw [Sem.wp_loadPart_of M Γ _ p s (o := o) _ ho] at hq' ⊢
    simp only [hhas, Sem.wp_pure'] at hq' ⊢
    cases hb : es.any (·.key.isStr name) with
    | false =>
      simp only [hb, Bool.false_eq_true, if_false, Sem.wp_pure'] at hq' ⊢
      exact ⟨hq', s.heap, rfl, fun o' e => ⟨o', e, rfl, by rw [ho] at e; cases e; intro vs q; rw [hd] at q; cases q⟩⟩
    | true =>
      simp only [hb, if_true, Sem.wp_bind', Sem.wp_cmd_updatePart, Sem.wp_pure'] at hq' ⊢
      refine ⟨hq'.1, hq'.2, _, rfl, fun o' e => ?_⟩
      rw [ho] at e; cases e
      refine ⟨_, Heap.get?_update_self _ ho (dropName_alive' _ _ _ _ hd), dropName_cls _ _, fun vs q => ?_⟩
      obtain ⟨es', n', h⟩ := dropName_data name o es ep hd
      rw [h] at q; cases q
  refine wpAny_mono (key _ (wpAny_nsDel_keeps (Q := fun b s' => ∃ h', s' = { s with heap := h' } ∧ b = (m name).isSome ∧ ∃ v, h'.Ns a (fun x => if x = name then v else m x) ∧ Heap.SameBut a s.heap h') hn fun h' v h1 h2 => ⟨h', rfl, rfl, v, h1, h2⟩)) (fun b s' h => ?_) fun _ _ x => x
  obtain ⟨⟨h', rfl, rfl, v, h1, h2⟩, h'', e, h3⟩ := h
  have : h' = h'' := congrArg Shared.heap e
  subst this
  exact hQ h' v h1 h2 h3
/-- behind the handler its name is gone -/
theorem name_goes {M : Model} {A : Around} {E : Value → Shared → Prop} {s : Shared} {env : Env} {n : PySem.Str} {pos : Pos} {m : PySem.Str → Option Value} {Q : Unit → Shared → Prop} (hl : env.kindOf n = some .local) (hn : s.heap.Ns env.locals m) (hk : env.scope.kind = .function)
    (h : ∀ h' v, h'.Ns env.locals (fun x => if x = n then v else m x) → Heap.SameBut env.locals s.heap h' → (∀ o, s.heap.get? env.locals = some o → ∃ o', h'.get? env.locals = some o' ∧ o'.cls = o.cls ∧ ∀ vs, o'.data ≠ .fields vs) → Q () { s with heap := h', toks := s.toks + 1 }) :
    wpAny M A (do bindName env n .none; unbindBehindTheSuite env n pos) Q E s := by
  have hp : (env.scope.kind == .class || (env.scope.kind == .module && env.locals != env.globals)) = false := by rw [hk]; rfl
  refine wpAny_bind (wpAny_bindName (store_local hl hn hk fun h₁ hn₁ hs₁ hc₁ => ?_))
  unfold unbindBehindTheSuite
  refine wpAny_onRaise ?_
  unfold unbindName
  refine wpAny_bind (wpAny_point (wpAny_bind ?_))
  unfold deleteName
  simp only [hl, hp]
  rw [if_neg (by decide)]
  refine wpAny_bind (nsDel_cls hn₁ fun h₂ v hn₂ hs₂ hc₂ => ?_)
  simp only [if_true, Option.isSome_some, Bool.not_true, Bool.false_eq_true, if_false]
  refine wpAny_pure (wpAny_point (h h₂ v ?_ (hs₁.trans hs₂) fun o e => ?_))
  · have e : (fun x => if x = n then v else (fun x => if x = n then some Value.none else m x) x) = fun x => if x = n then v else m x := by
      funext x
      by_cases hx : x = n <;> simp [hx]
    rw [← e]; exact hn₂
  · obtain ⟨o₁, e₁, c₁, _⟩ := hc₁ o e
    obtain ⟨o₂, e₂, c₂, d₂⟩ := hc₂ o₁ e₁
    exact ⟨o₂, e₂, c₂.trans c₁, d₂⟩
end Mine
end

section
set_option Elab.async false
namespace Mine
open PySem PySem.W PySem.Calls PyProof.Rows

/-! ## what leaves place 2 of every record as it is -/
noncomputable def tame2 (f : Obj → Obj) : Prop := ∀ o vs, o.data = .fields vs → ∃ vs', (f o).data = .fields vs' ∧ vs'[2]? = vs[2]?
noncomputable def TameP {α : Type} (U : (Obj → Obj) → Prop) : Sem α → Prop
  | .pure _ => True
  | .raise _ => True
  | .unsupported _ => True
  | .finish _ => True
  | .rule _ k => TameP U (k ())
  | .at _ k => TameP U (k ())
  | .load _ _ k => ∀ o, TameP U (k o)
  | .update _ _ f k => U f ∧ TameP U (k ())
  | .alloc _ k => ∀ a, TameP U (k a)
  | .loadIfAlive _ k => ∀ o, TameP U (k o)
  | .point _ k => TameP U (k ())
  | .register _ _ => True
  | .fresh k => ∀ t, TameP U (k t)
  | .ask k => ∀ t, TameP U (k t)
  | .choose _ _ k => ∀ t, TameP U (k t)
  | .os _ _ k => ∀ t, TameP U (k t)
  | .call .. => False
  | .handled _ k => ∀ t, TameP U (k t)
  | .newGen _ k => ∀ t, TameP U (k t)
  | .genState _ k => ∀ t, TameP U (k t)
  | .resume .. => False
  | .yield .. => True
  | .stack k => ∀ t, TameP U (k t)
  | .fork .. => True
  | .thread k => ∀ t, TameP U (k t)
  | .await .. => True
abbrev Tame {α : Type} (t : Sem α) : Prop := TameP tame2 t
theorem TameP.bind {α β : Type} {U : (Obj → Obj) → Prop} {t : Sem α} {k : α → Sem β} (h : TameP U t) (hk : ∀ a, TameP U (k a)) : TameP U (t >>= k) := by
  show TameP U (Sem.bind t k)
  induction t with
  | pure a => exact hk a
  | raise e => trivial
  | unsupported _ => trivial
  | finish _ => trivial
  | rule _ k' ih => exact ih () h
  | «at» _ k' ih => exact ih () h
  | load a _ k' ih => exact fun o => ih o (h o)
  | update a _ f k' ih => exact ⟨h.1, ih () h.2⟩
  | alloc o k' ih => exact fun a => ih a (h a)
  | loadIfAlive a k' ih => exact fun a => ih a (h a)
  | point _ k' ih => exact ih () h
  | register _ _ => trivial
  | fresh k' ih => exact fun a => ih a (h a)
  | ask k' ih => exact fun a => ih a (h a)
  | choose _ _ k' ih => exact fun a => ih a (h a)
  | os _ _ k' ih => exact fun a => ih a (h a)
  | call => exact h.elim
  | handled _ k' ih => exact fun a => ih a (h a)
  | newGen _ k' ih => exact fun a => ih a (h a)
  | genState _ k' ih => exact fun a => ih a (h a)
  | resume => exact h.elim
  | yield => trivial
  | stack k' ih => exact fun a => ih a (h a)
  | fork => trivial
  | thread k' ih => exact fun a => ih a (h a)
  | await => trivial
noncomputable def F2 (e : Addr) (v : Value) (h : Heap) : Prop := ∃ o vs, h.get? e = some o ∧ o.data = .fields vs ∧ vs[2]? = some v
theorem F2.update {e a : Addr} {v : Value} {h : Heap} {f : Obj → Obj} (x : F2 e v h) (hf : tame2 f) : F2 e v (h.update a f) := by
  obtain ⟨o, vs, he, hd, h2⟩ := x
  by_cases z : a = e
  · subst z
    obtain ⟨vs', hd', h2'⟩ := hf o vs hd
    exact ⟨_, vs', Heap.get?_update_self _ he (Obj.isFreed_of_fields hd'), hd', h2'.trans h2⟩
  · exact ⟨o, vs, (Heap.get?_update_other _ _ z).trans he, hd, h2⟩
theorem F2.push {e : Addr} {v : Value} {h : Heap} {o : Obj} (x : F2 e v h) : F2 e v (h.push o) := by
  obtain ⟨o, vs, he, r⟩ := x
  exact ⟨o, vs, Heap.get?_push_of_some _ he, r⟩
theorem wp_inv {α : Type} (M : Model) (Γ : Ctx) {U : (Obj → Obj) → Prop} {Inv : Heap → Prop} (hu : ∀ h a f, U f → (h.get? a).isSome = true → Inv h → Inv (h.update a f)) (hp : ∀ h o, Inv h → Inv (h.push o)) (t : Sem α) : ∀ (Q : α → Pos → Shared → Prop) (E : Value → Pos → Shared → Prop) (p : Pos) (s : Shared), TameP U t → Inv s.heap → Sem.wp M Γ t Q E p s →
    Sem.wp M Γ t (fun a p' s' => Inv s'.heap ∧ Q a p' s') (fun x p' s' => Inv s'.heap ∧ E x p' s') p s := by
  induction t with
  | pure a => intro Q E p s _ hn h; exact ⟨hn, h⟩
  | raise e => intro Q E p s _ hn h; exact ⟨hn, h⟩
  | unsupported _ => intro Q E p s _ _ h; exact h
  | finish _ => intro Q E p s _ _ h; exact h
  | rule _ k ih => intro Q E p s ht hn h; exact ih () Q E p s ht hn h
  | «at» p' k ih => intro Q E p s ht hn h; exact ih () Q E p' s ht hn h
  | load a _ k ih => intro Q E p s ht hn h; obtain ⟨o, ho, h⟩ := h; exact ⟨o, ho, ih o Q E p s (ht o) hn h⟩
  | update a _ f k ih => intro Q E p s ht hn h; exact ⟨h.1, ih () Q E p _ ht.2 (hu _ _ _ ht.1 h.1 hn) h.2⟩
  | loadIfAlive a k ih => intro Q E p s ht hn h; exact ih _ Q E p s (ht _) hn h
  | point _ k ih => intro Q E p s ht hn h; exact ih () Q E p s ht hn h
  | register _ _ => intro Q E p s _ _ h; exact h
  | alloc o k ih => intro Q E p s ht hn h; exact ih _ Q E p _ (ht _) (hp _ _ hn) h
  | fresh k ih => intro Q E p s ht hn h; exact ih _ Q E p _ (ht _) hn h
  | ask k ih => intro Q E p s ht hn h; exact ih _ Q E p s (ht _) hn h
  | choose src m k ih => intro Q E p s ht hn h; exact ⟨h.1, ih _ Q E p _ (ht _) hn h.2⟩
  | os q _ k ih => intro Q E p s ht hn h; exact ih _ Q E p _ (ht _) hn h
  | call => intro Q E p s ht; exact ht.elim
  | handled own k ih => intro Q E p s ht hn h; exact ih _ Q E p s (ht _) hn h
  | genState g k ih => intro Q E p s ht hn h; obtain ⟨st, hs, h⟩ := h; exact ⟨st, hs, ih _ Q E p s (ht _) hn h⟩
  | newGen c k ih => intro Q E p s ht hn h; exact ih _ Q E p _ (ht _) hn h
  | resume => intro Q E p s ht; exact ht.elim
  | yield _ _ _ _ => intro Q E p s _ _ h; exact h
  | stack k ih => intro Q E p s ht hn h; exact ih _ Q E p s (ht _) hn h
  | fork _ _ => intro Q E p s _ _ h; exact h
  | thread k ih => intro Q E p s ht hn h; exact ih _ Q E p s (ht _) hn h
  | await _ _ _ _ _ => intro Q E p s _ _ h; exact h
theorem wp_tame {α : Type} (M : Model) (Γ : Ctx) (e : Addr) (v : Value) (t : Sem α) (Q : α → Pos → Shared → Prop) (E : Value → Pos → Shared → Prop) (p : Pos) (s : Shared) (ht : Tame t) (hn : F2 e v s.heap) (h : Sem.wp M Γ t Q E p s) :
    Sem.wp M Γ t (fun a p' s' => F2 e v s'.heap ∧ Q a p' s') (fun x p' s' => F2 e v s'.heap ∧ E x p' s') p s := wp_inv M Γ (fun _ _ _ hf _ x => x.update hf) (fun _ _ x => x.push) t Q E p s ht hn h
theorem wpAny_tame {α : Type} {M : Model} {A : Around} {s : Shared} {t : Sem α} {Q : α → Shared → Prop} {E : Value → Shared → Prop} {e : Addr} {v : Value} (ht : Tame t) (hn : F2 e v s.heap) (h : wpAny M A t Q E s) :
    wpAny M A t (fun a s' => F2 e v s'.heap ∧ Q a s') (fun x s' => F2 e v s'.heap ∧ E x s') s := fun Γ p hΓ => wp_tame M Γ e v t _ _ p s ht hn (h Γ p hΓ)
/-- the same, if it matters at all -/
theorem wpAny_tame' {α : Type} {M : Model} {A : Around} {s : Shared} {t : Sem α} {Q : α → Shared → Prop} {E : Value → Shared → Prop} {e : Addr} {b : Bool} (ht : Tame t) (hn : b = true → F2 e .none s.heap) (h : wpAny M A t Q E s) :
    wpAny M A t (fun a s' => (b = true → F2 e .none s'.heap) ∧ Q a s') E s := by
  cases b with
  | false => exact wpAny_mono h (fun _ _ x => ⟨(fun z => nomatch z), x⟩) fun _ _ x => x
  | true => exact wpAny_mono (wpAny_tame ht (hn rfl) h) (fun _ _ x => ⟨fun _ => x.1, x.2⟩) fun _ _ x => x.2
theorem Tame.pure' {α : Type} (a : α) : Tame (Pure.pure a : Sem α) := trivial
theorem Tame.load' (a : Addr) : Tame (load a) := fun _ => trivial
theorem Tame.alloc' (o : Obj) : Tame (alloc o) := fun _ => trivial
theorem Tame.stack' : Tame stack := fun _ => trivial
theorem Tame.update' {a : Addr} {f : Obj → Obj} (h : tame2 f) : Tame (update a f) := ⟨h, trivial⟩
theorem Tame.fields (v : Value) : Tame (fieldsOf v) := by
  unfold fieldsOf
  cases v <;> first | trivial | skip
  refine TameP.bind (Tame.load' _) fun o => ?_
  split <;> trivial
theorem Tame.field' (v : Value) (i : Nat) : Tame (field v i) := by
  unfold field
  refine TameP.bind (Tame.fields v) fun vs => ?_
  split <;> trivial
theorem tame2_set {i : Nat} {x : Value} (hi : i ≠ 2) : tame2 (Obj.mapFields (·.setIfInBounds i x)) := fun o vs hd => ⟨_, Obj.data_mapFields hd _, by rw [Array.getElem?_setIfInBounds_ne hi]⟩
theorem Tame.set {v x : Value} {i : Nat} (hi : i ≠ 2) : Tame (setField v i x) := by
  unfold setField
  cases v <;> first | trivial | skip
  unfold updateField
  refine TameP.bind (Tame.load' _) fun o => ?_
  split
  · split
    · exact Tame.update' (tame2_set hi)
    · trivial
  · trivial
theorem Tame.flight (e : Value) (f : Option Addr) : Tame (setFlight e f) := by
  unfold setFlight
  refine TameP.bind (Tame.field' _ _) fun tb => ?_
  split
  · exact Tame.set (by decide)
  · trivial
theorem Tame.ready (l : List Env) : Tame (readyFrames l) := by
  induction l with
  | nil => trivial
  | cons env outer ih =>
    unfold readyFrames
    split
    · refine TameP.bind (Tame.load' _) fun o => ?_
      split
      · trivial
      · refine TameP.bind ?_ fun b => ?_
        · unfold behindIsImport
          split
          · trivial
          · split
            · trivial
            · exact TameP.bind (Tame.field' _ _) fun _ => trivial
        · refine TameP.bind ?_ fun bk => ?_
          · unfold keptBack
            split
            · split
              · trivial
              · refine TameP.bind ?_ fun _ => ?_
                · unfold underTheClaimsCaller
                  exact TameP.bind Tame.stack' fun _ => trivial
                · trivial
            · trivial
          · exact TameP.bind (Tame.update' fun o vs hd => ⟨vs, hd, rfl⟩) fun _ => ih
    · trivial
theorem Tame.frameOf' (env : Env) : Tame (PySem.frameOf env) := by
  unfold PySem.frameOf
  refine TameP.bind (TameP.bind Tame.stack' fun _ => trivial) fun l => TameP.bind ?_ fun x => ?_
  · unfold frameObject
    split
    · trivial
    · exact TameP.bind (Tame.ready _) fun _ => trivial
  · split <;> trivial
theorem Tame.newFields' (ty : String) (vs : List Value) : Tame (newFields ty vs) := by
  unfold newFields newObj
  dsimp only
  split
  · trivial
  · unfold newObjAsIs
    refine TameP.bind (Tame.alloc' _) fun a => ?_
    trivial
theorem Tame.note (e : Value) (env : Env) : Tame (noteFrame e env) := by
  unfold noteFrame
  split
  · refine TameP.bind (Tame.field' _ _) fun head => ?_
    have tail : Tame (do setField e 1 (← EntryCells.newEntry head (← PySem.frameOf env) .none (rawInt ‹Addr›) .none (← entryPlaceOf ‹Addr› (head != .none)))) := by
      refine TameP.bind (Tame.frameOf' _) fun a => TameP.bind ?_ fun pl => TameP.bind (Tame.newFields' _ _) fun b => Tame.set (by decide)
      unfold entryPlaceOf
      refine TameP.bind Tame.stack' fun acts => ?_
      split <;> trivial
    split
    · refine TameP.bind (Tame.field' _ _) fun x => ?_
      split
      · trivial
      · exact TameP.bind (Tame.set (by decide)) fun _ => tail
    · exact tail
  · trivial
theorem Tame.leave (e : Value) (env : Env) : Tame (leaving env e) := TameP.bind (Tame.note e env) fun _ => Tame.flight e _
end Mine
end

section
set_option Elab.async false
namespace Mine
open PySem PySem.W PySem.Calls PyProof.Rows

theorem ff_base {b0 h h' : Heap} {fs : List Addr} {l : List Env} (hfs : ∀ b ∈ l.filterMap (·.frame), b ∈ fs) (hf : h.FunFrames b0 l) (k : ∀ b o, h.get? b = some o → h'.get? b = some o) : h'.FunFrames (hideAll h fs) l := by
  induction l with
  | nil => trivial
  | cons e l ih =>
    obtain ⟨h1, ⟨L, o, h2, h3, h4, h5⟩, h6⟩ := hf
    exact ⟨h1, ⟨L, o, h2, hideAll_none _ (hfs L (List.mem_filterMap.mpr ⟨e, .head _, h2⟩)), k L o h4, h5⟩, ih (fun b hb => hfs b (by obtain ⟨x, hx, hxb⟩ := List.mem_filterMap.mp hb; exact List.mem_filterMap.mpr ⟨x, .tail _ hx, hxb⟩)) h6⟩
theorem Raw.f2 {h h' : Heap} {x : Addr} {m : Msg} (r : Raw h x m h') : m.2 = true → F2 x .none h' := fun hm => by
  obtain ⟨o, vs, t, tk, e, _, hd, _, _, h2, _⟩ := r.there
  exact ⟨o, vs, e, hd, h2 hm⟩
section
variable {prog : Program} {w : World} {b0 : Heap} {c : Cx} {s : Shared} {Ex : Value → Shared → Prop} {A : Around}

/-- the exception leaves the def, for its caller -/
theorem leave_sound {outer : List Env} {hc h₁ h' : Heap} {x : Addr} {m : Msg} {tk : Nat} {QU : Unit → Shared → Prop} (hA : A.frames = some c.stk) (hs : c.stk = c.env :: outer) (hf : c.env.frame = some c.env.locals) (g : Ground b0 c h₁)
    (k : Kp (outer.filterMap (·.frame)) [] hc h₁) (hL : hc.get? c.env.locals = none) (lit : Lit c.stk h₁ x m h') (H : ∀ h'', Fly outer hc x m h'' → QU () { s with heap := h'', toks := tk }) :
    wpAny (model prog w) A (leaving c.env (.ref x)) QU Ex { s with heap := h', toks := tk } := by
  have hst : (hideAll hc (outer.filterMap (·.frame))).StaysIn (hideAll h₁ (c.stk.filterMap (·.frame))) := fun b o e => by
    have e1 := of_hideAll _ e
    have hb : b ∉ outer.filterMap (·.frame) := fun z => by rw [hideAll_none _ z] at e; cases e
    refine hideAll_get _ (k.off e1 (by simp) hb) fun z => ?_
    rw [hs] at z
    obtain ⟨y, hy, hyb⟩ := List.mem_filterMap.mp z
    rcases List.mem_cons.mp hy with rfl | hy
    · have : c.env.locals = b := Option.some.inj (hf.symm.trans hyb)
      rw [← this, hL] at e1; cases e1
    · exact hb (List.mem_filterMap.mpr ⟨y, hy, hyb⟩)
  have hup : hc.UpToSlots h₁ := k.slots
  have fin : ∀ {t tk' h''}, Heap.FlyingW (hideAll h₁ (c.stk.filterMap (·.frame))) outer x (.type "ValueError") (.ref t) h'' → h''.TupAt t [.str m.1 tk'] → (hideAll h₁ (c.stk.filterMap (·.frame))).get? t = none → h₁.UpToSlots h'' → m.1.length ≤ sizeLine → (m.2 = true → F2 x .none h'') → Fly outer hc x m h'' :=
    fun fl ht hn up hl hc2 => ⟨⟨_, _, flyingW_base hst fl, ht, fresh_of_stays hst hn⟩, hup.trans up, hl, hc2⟩
  rcases lit with f | r | hx
  · obtain ⟨t, tk', fl, ht, hn⟩ := f.fly
    have base : wpAny (model prog w) A (leaving c.env (.ref x)) (fun _ s' => ∃ h'', s' = { s with heap := h'', toks := tk } ∧ Heap.FlyingW (hideAll h₁ (c.stk.filterMap (·.frame))) outer x (.type "ValueError") (.ref t) h'' ∧ h'.UpToSlots h'') Ex { s with heap := h', toks := tk } :=
      wpAny_leaves_onW (hA.trans (by rw [hs])) hf (hs ▸ fl) fun h'' fl' up' => ⟨h'', rfl, fl', up'⟩
    refine wpAny_mono (wpAny_tame' (b := m.2) (e := x) (Tame.leave _ _) f.ctx base) (fun _ s' hq => ?_) fun _ _ y => y
    obtain ⟨hc2, h'', rfl, fl', up'⟩ := hq
    exact H h'' (fin fl' (ht.of_slots up') hn (f.up.trans up') f.len hc2)
  · obtain ⟨o, vs, t, tk', e, hcl, hd, v0, v1, v2, tn, ht⟩ := r.there
    have hff : h'.FunFrames (hideAll h₁ (c.stk.filterMap (·.frame))) c.stk := ff_base (fun _ z => z) g.ff r.keeps
    have hkb : (hideAll h₁ (c.stk.filterMap (·.frame))).StaysIn h' := fun b ob eb => r.keeps b ob (of_hideAll _ eb)
    have no : ∀ {a}, h₁.get? a = none → (hideAll h₁ (c.stk.filterMap (·.frame))).get? a = none := fun {a} ea => by
      cases q : (hideAll h₁ (c.stk.filterMap (·.frame))).get? a with
      | none => rfl
      | some ob => rw [of_hideAll _ q] at ea; cases ea
    have base : wpAny (model prog w) A (leaving c.env (.ref x)) (fun _ s' => ∃ h'', s' = { s with heap := h'', toks := tk } ∧ Heap.FlyingW (hideAll h₁ (c.stk.filterMap (·.frame))) outer x (.type "ValueError") (.ref t) h'' ∧ h'.UpToSlots h'') Ex { s with heap := h', toks := tk } := by
      refine wpAny_leaving_firstW (s := { s with heap := h', toks := tk }) (base := hideAll h₁ (c.stk.filterMap (·.frame))) (outer := outer) (hA.trans (by rw [hs])) (hs ▸ hff) hf e hkb (no r.new) hd v1 v0 fun h'' hl => ?_
      obtain ⟨k1, ⟨_, _, k2⟩, k3, k4⟩ := hl
      rw [hcl] at k3
      exact ⟨h'', rfl, ⟨k1, no r.new, k2, k3⟩, k4⟩
    refine wpAny_mono (wpAny_tame' (b := m.2) (e := x) (Tame.leave _ _) r.f2 base) (fun _ s' hq => ?_) fun _ _ y => y
    obtain ⟨hc2, h'', rfl, fl', up'⟩ := hq
    exact H h'' (fin fl' (ht.of_slots up') (no tn) ((Heap.UpToSlots.of_keeps r.keeps).trans up') r.len hc2)
  · obtain ⟨t, tk', L, hLe, hh, ht, hn⟩ := hx.fly
    have hLe' : L = c.env.locals := by rw [hs] at hLe; exact Option.some.inj (hLe.symm.trans hf)
    subst hLe'
    have base : wpAny (model prog w) A (leaving c.env (.ref x)) (fun _ s' => ∃ h'', s' = { s with heap := h'', toks := tk } ∧ Heap.FlyingW (hideAll h₁ (c.stk.filterMap (·.frame))) outer x (.type "ValueError") (.ref t) h'' ∧ h'.UpToSlots h'') Ex { s with heap := h', toks := tk } := by
      unfold leaving
      refine wpAny_bind (wpAny_noteFrame_againW hf hh.2.2.2 ?_)
      refine wpAny_landsW hh fun h'' hfl up => ?_
      rw [hs] at hfl
      obtain ⟨k1, k2, ⟨_, _, k3⟩, k4⟩ := hfl
      exact ⟨h'', rfl, ⟨hs ▸ k1, hs ▸ k2, hs ▸ k3, hs ▸ k4⟩, up⟩
    refine wpAny_mono (wpAny_tame' (b := m.2) (e := x) (Tame.leave _ _) hx.ctx base) (fun _ s' hq => ?_) fun _ _ y => y
    obtain ⟨hc2, h'', rfl, fl', up'⟩ := hq
    exact H h'' (fin fl' (ht.of_slots up') hn (hx.up.trans up') hx.len hc2)
end
end Mine
end

section
set_option Elab.async false
namespace Mine
open PySem PySem.W PySem.Calls PyProof.Rows

noncomputable def keepCls (f : Obj → Obj) : Prop := ∀ o, (f o).cls = o.cls
theorem kc_forIn {α β : Type} {U : (Obj → Obj) → Prop} {f : α → β → Sem (ForInStep β)} (hf : ∀ a b, TameP U (f a b)) (l : List α) : ∀ (b : β), TameP U (forIn l b f) := by
  induction l with
  | nil => intro b; rw [List.forIn_nil]; trivial
  | cons a l ih =>
    intro b
    rw [List.forIn_cons]
    refine TameP.bind (hf a b) fun x => ?_
    cases x with
    | done c => trivial
    | yield c => exact ih c
theorem kc_nsSet (a : Addr) (name : PySem.Str) (v : Value) : TameP keepCls (nsSet a name v) := by
  unfold nsSet strHash mkText
  refine TameP.bind (TameP.bind (fun _ => trivial) fun _ => trivial) fun h => TameP.bind (TameP.bind (fun _ => trivial) fun _ => trivial) fun key => TameP.bind (fun _ => trivial) fun o => ?_
  split
  · split
    · trivial
    · exact ⟨fun o => putName_cls _ _ _ _ _, trivial⟩
  · trivial
theorem kc_cellSet (a : Addr) (v : Option Value) : TameP keepCls (cellSet a v) := by
  unfold cellSet
  refine TameP.bind (fun _ => trivial) fun o => ?_
  split
  · exact ⟨fun o => rfl, trivial⟩
  · trivial
theorem kc_cellOf (env : Env) (name : PySem.Str) : TameP keepCls (cellOf env name) := by
  unfold cellOf
  split <;> trivial
theorem kc_storeName {env : Env} (hk : env.scope.kind = .function) (name : PySem.Str) (v : Value) : TameP keepCls (storeName env name v) := by
  have h1 : (env.scope.kind == ScopeKind.class) = false := by rw [hk]; rfl
  have h2 : (env.scope.kind == ScopeKind.module) = false := by rw [hk]; rfl
  unfold storeName
  simp only [h1, h2, Bool.false_and, Bool.or_false, Bool.false_or, Bool.false_eq_true, if_false]
  split
  · exact kc_nsSet _ _ _
  · exact kc_nsSet _ _ _
  · exact TameP.bind (kc_cellOf _ _) fun a => kc_cellSet _ _
  · exact TameP.bind (kc_cellOf _ _) fun a => kc_cellSet _ _
  · split
    · trivial
    · exact kc_nsSet _ _ _
  · exact kc_nsSet _ _ _
noncomputable def ClsAt (L : Addr) (h : Heap) : Prop := L < h.objs.size ∧ ∀ o, h.get? L = some o → o.cls = .type "frame"
theorem ClsAt.upd {L a : Addr} {h : Heap} {f : Obj → Obj} (hf : keepCls f) (ha : (h.get? a).isSome = true) (x : ClsAt L h) : ClsAt L (h.update a f) := by
  refine ⟨by cases h; simp only [Heap.update, Array.size_modify]; exact x.1, fun o e => ?_⟩
  by_cases z : a = L
  · subst z
    obtain ⟨o₀, e₀⟩ := Option.isSome_iff_exists.mp ha
    by_cases hfr : (f o₀).isFreed = false
    · rw [Heap.get?_update_self f e₀ hfr] at e; cases e
      rw [hf o₀]; exact x.2 o₀ e₀
    · obtain ⟨e1, e2⟩ := Heap.get?_some_iff.mp e
      obtain ⟨e3, _⟩ := Heap.get?_some_iff.mp e₀
      have : o = f o₀ := by
        cases h
        simp only [Heap.update, Array.getElem?_modify, if_true] at e1
        simp only at e3
        rw [e3] at e1
        exact (Option.some.inj e1).symm
      rw [this, hf o₀]; exact x.2 o₀ e₀
  · rw [Heap.get?_update_other _ _ z] at e; exact x.2 o e
theorem ClsAt.push {L : Addr} {h : Heap} {o : Obj} (x : ClsAt L h) : ClsAt L (h.push o) := by
  refine ⟨by rw [Heap.size_push]; exact Nat.lt_succ_of_lt x.1, fun o' e => ?_⟩
  obtain ⟨e1, e2⟩ := Heap.get?_some_iff.mp e
  refine x.2 o' (Heap.get?_some_iff.mpr ⟨?_, e2⟩)
  have hx := x.1
  cases h
  simp only [Heap.push] at e1
  rw [Array.getElem?_push] at e1
  split at e1
  · rename_i z; exact absurd z (Nat.ne_of_lt hx)
  · exact e1
theorem new_env {M : Model} {A : Around} {E : Value → Shared → Prop} {s : Shared} {scope : Scope} {globals : Addr} {binds : List (PySem.Str × Value)} {qual : PySem.Str} {func : Option Addr} {code : Value} {builtins : Addr} {Q : Env → Shared → Prop}
    (hk : scope.kind = .function)
    (hkind : ∀ x ∈ binds, scope.names.lookup x.1 = some .local ∨ (scope.names.lookup x.1 = some .cell ∧ ((cellsFrom (s.heap.objs.size + 1) scope.names []).lookup x.1).isSome = true))
    (hQ : ∀ env, env = newEnv scope s.heap.objs.size globals (cellsFrom (s.heap.objs.size + 1) scope.names []) qual func code none builtins →
      ∀ s', InCallC s env.locals (bindL env.kindOf binds fun _ => none) env.cells (bindC env.kindOf binds fun _ => none) s' → (∃ o, s'.heap.get? env.locals = some o ∧ o.cls = .type "frame") → Q env s') :
    wpAny M A (newFunctionEnv scope globals [] binds qual func code none builtins) Q E s := by
  have lib := wpAny_newFunctionEnv_cells (M := M) (A := A) (E := E) (globals := globals) (qual := qual) (func := func) (code := code) (builtins := builtins) (Q := fun env s' => env = newEnv scope s.heap.objs.size globals (cellsFrom (s.heap.objs.size + 1) scope.names []) qual func code none builtins ∧ InCallC s env.locals (bindL env.kindOf binds fun _ => none) env.cells (bindC env.kindOf binds fun _ => none) s') hk hkind fun env he s' x => ⟨he, x⟩
  have key : wpAny M A (newFunctionEnv scope globals [] binds qual func code none builtins) (fun env s' => ClsAt s.heap.objs.size s'.heap ∧ (env = newEnv scope s.heap.objs.size globals (cellsFrom (s.heap.objs.size + 1) scope.names []) qual func code none builtins ∧ InCallC s env.locals (bindL env.kindOf binds fun _ => none) env.cells (bindC env.kindOf binds fun _ => none) s')) E s := by
    have split : ∃ rest : Addr → Sem Env, newFunctionEnv scope globals [] binds qual func code none builtins = (alloc { cls := .type "frame", data := .dict #[] } >>= rest) ∧ ∀ L, TameP keepCls (rest L) := by
      refine ⟨_, by unfold newFunctionEnv; rfl, fun L => ?_⟩
      dsimp only
      refine TameP.bind (kc_forIn (fun a b => ?_) _ _) fun cells => TameP.bind (kc_forIn (fun a b => ?_) _ _) fun _ => trivial
      · split
        · exact TameP.bind (fun _ => trivial) fun _ => trivial
        · trivial
      · exact TameP.bind (kc_storeName hk _ _) fun _ => trivial
    obtain ⟨rest, he, ht⟩ := split
    intro Γ p hΓ
    have l0 := lib Γ p hΓ
    rw [he] at l0 ⊢
    rw [Sem.wp_bind'] at l0 ⊢
    have l1 : Sem.wp M Γ (rest s.heap.objs.size) (fun env _ s' => env = newEnv scope s.heap.objs.size globals (cellsFrom (s.heap.objs.size + 1) scope.names []) qual func code none builtins ∧ InCallC s env.locals (bindL env.kindOf binds fun _ => none) env.cells (bindC env.kindOf binds fun _ => none) s') (fun e _ s' => E e s') p { s with heap := s.heap.push { cls := .type "frame", data := .dict #[] } } := l0
    have l2 := wp_inv M Γ (U := keepCls) (Inv := ClsAt s.heap.objs.size) (fun h a f hf ha x => x.upd hf ha) (fun h o x => x.push) _ _ _ _ (s := { s with heap := s.heap.push { cls := .type "frame", data := .dict #[] } }) (ht _) ⟨by show _ < (s.heap.push _).objs.size; rw [Heap.size_push]; exact Nat.lt_succ_self _, fun o e => by rw [Heap.get?_push_size _ rfl] at e; cases e; rfl⟩ l1
    show Sem.wp M Γ (rest s.heap.objs.size) _ _ p { s with heap := s.heap.push { cls := .type "frame", data := .dict #[] } }
    exact Sem.wp_mono M Γ _ (fun _ _ _ x => x) (fun _ _ _ x => x.2) _ _ l2
  refine wpAny_mono key (fun env s' h => ?_) fun _ _ x => x
  obtain ⟨hc, rfl, x⟩ := h
  refine hQ _ rfl s' x ?_
  obtain ⟨o, _, _, e, _⟩ := x.toInCall.ns
  exact ⟨o, e, hc.2 o e⟩
end Mine
end

section
set_option Elab.async false
namespace Mine
open PySem PySem.W PySem.Calls PyProof.Rows

/-- a def of the top: where it lies, its names, its body -/
structure FnOk (b0 : Heap) (fa : Addr) (ps : List String) (body : List IS) : Prop where
  ex : ∃ o fd stmts, b0.get? fa = some o ∧ o.data = .func fd ∧ fd.body = .stmts stmts ∧ fd.globals = mainGlobals ∧ fd.builtins = builtinsNs ∧ fd.closure = [] ∧ fd.scope.kind = .function ∧ fd.scope.isCoroutine = false ∧ fd.scope.isGenerator = false ∧
    b0.CodeRec fd.code fd.qualname ∧ (∀ s vals, vals.length = ps.length → BindsTo s fd ⟨vals, []⟩ ((ps.map nm).zip vals)) ∧ (∀ p ∈ ps, LName fd.scope p) ∧ ((cellsFrom 0 fd.scope.names []).map (·.1)).Nodup ∧ CB fd.scope stmts body
  nodup : ps.Nodup

theorem bindL_other {kd : PySem.Str → Option NameKind} {x : PySem.Str} {b : List (PySem.Str × Value)} : ∀ {m : PySem.Str → Option Value}, (∀ p ∈ b, p.1 ≠ x) → bindL kd b m x = m x := by
  induction b with
  | nil => exact fun _ => rfl
  | cons q b ih =>
    obtain ⟨n, v⟩ := q
    intro m h
    unfold bindL
    rw [ih fun p hp => h p (.tail _ hp)]
    have : x ≠ n := fun z => h (n, v) (.head _) z.symm
    split
    · simp only [if_neg this]
    · rfl
theorem bindC_other {kd : PySem.Str → Option NameKind} {x : PySem.Str} {b : List (PySem.Str × Value)} : ∀ {m : PySem.Str → Option Value}, (∀ p ∈ b, p.1 ≠ x) → bindC kd b m x = m x := by
  induction b with
  | nil => exact fun _ => rfl
  | cons q b ih =>
    obtain ⟨n, v⟩ := q
    intro m h
    unfold bindC
    rw [ih fun p hp => h p (.tail _ hp)]
    have : x ≠ n := fun z => h (n, v) (.head _) z.symm
    split
    · rfl
    · simp only [if_neg this]
theorem zip_ne {x : String} {ps : List String} {vals : List Value} (h : x ∉ ps) : ∀ p ∈ (ps.map nm).zip vals, p.1 ≠ nm x := fun p hp e => by
  have := (List.of_mem_zip hp).1
  obtain ⟨y, hy, hye⟩ := List.mem_map.mp this
  exact h (nm_inj (hye.trans e) ▸ hy)
theorem bindL_at {kd : PySem.Str → Option NameKind} {x : String} {v : Value} {ps : List String} (hk : kd (nm x) = some .local) : ∀ {vals : List Value} {m : PySem.Str → Option Value}, ps.Nodup → (ps.zip vals).lookup x = some v → bindL kd ((ps.map nm).zip vals) m (nm x) = some v := by
  induction ps with
  | nil => intro vals m _ h; cases h
  | cons p ps ih =>
    intro vals m hn h
    cases vals with
    | nil => cases h
    | cons u vals =>
    rw [List.nodup_cons] at hn
    simp only [List.map_cons, List.zip_cons_cons]
    unfold bindL
    by_cases e : x = p
    · subst e
      rw [List.zip_cons_cons, List.lookup_cons] at h
      simp only [beq_self_eq_true] at h
      rw [bindL_other (zip_ne hn.1), if_pos hk]
      simp only [if_true]; exact h
    · rw [List.zip_cons_cons, List.lookup_cons, beq_eq_false_iff_ne.mpr e] at h
      exact ih hn.2 h
theorem bindC_at {kd : PySem.Str → Option NameKind} {x : String} {v : Value} {ps : List String} (hk : kd (nm x) = some .cell) : ∀ {vals : List Value} {m : PySem.Str → Option Value}, ps.Nodup → (ps.zip vals).lookup x = some v → bindC kd ((ps.map nm).zip vals) m (nm x) = some v := by
  induction ps with
  | nil => intro vals m _ h; cases h
  | cons p ps ih =>
    intro vals m hn h
    cases vals with
    | nil => cases h
    | cons u vals =>
    rw [List.nodup_cons] at hn
    simp only [List.map_cons, List.zip_cons_cons]
    unfold bindC
    by_cases e : x = p
    · subst e
      rw [List.zip_cons_cons, List.lookup_cons] at h
      simp only [beq_self_eq_true] at h
      rw [bindC_other (zip_ne hn.1), if_neg (by rw [hk]; decide)]
      simp only [if_true]; exact h
    · rw [List.zip_cons_cons, List.lookup_cons, beq_eq_false_iff_ne.mpr e] at h
      exact ih hn.2 h

noncomputable def RetR (P : Program × World) (E : List Addr) (h : Heap) : Fl → Value → Prop
  | .ret d f, v => R P (fun a => f = true → a ∉ E) h v d
  | _, v => v = .none
section
variable {prog : Program} {w : World} {b0 : Heap} {mg mb : PySem.Str → Option Value} {consts : String → Option V} {r : Rec} {n : Nat} {c : Cx} {E : List Addr} {φ : Frm} {Ω : List (String × Addr)} {s : Shared} {Q : Value → Shared → Prop} {Ex : Value → Shared → Prop}

/-- the call of a def whose arguments stand ready -/
theorem call_core {fa : Addr} {ps : List String} {body : List IS} {vals : List Value} {E' : List Addr} {φ₀ : Frm} {Ω₀ : List (String × Addr)} (S : Stat (prog, w) b0 mg mb consts) (F : FnOk b0 fa ps body) (hX : SEx prog w b0 r n) (ok : c.Ok (n + 1)) (st : Ground b0 c s.heap)
    (hlen : vals.length = ps.length) (hE : ∀ a ∈ E', (∃ o, s.heap.get? a = some o) ∧ b0.get? a = none) (hO : ∀ a ∈ Ω₀.map (·.2), (∃ o, s.heap.get? a = some o) ∧ b0.get? a = none) (hOn : (Ω₀.map (·.2)).Nodup)
    (hslot : ∀ h₀ own, (∀ b o, s.heap.get? b = some o → h₀.get? b = some o) → (∀ a ∈ own, s.heap.get? a = none) → ∀ x sl, φ₀.lookup x = some sl → ∃ v, (ps.zip vals).lookup x = some v ∧ SlotAt (prog, w) E' (own ++ Ω₀.map (·.2)) Ω₀ h₀ (some v) x sl)
    (hdom : ∀ x, φ₀.lookup x = none → Ω₀.lookup x = none) (hacc : ∀ x ds, φ₀.lookup x ≠ some (.acc ds)) (hap : ∀ b ∈ c.fs, b ∉ Ω₀.map (·.2))
    (H : G (blk r φ₀ body) (fun p => ∀ v h' tk, RetR (prog, w) E' h' p.1 v → Kp c.fs (Ω₀.map (·.2)) s.heap h' →
        (∃ c' Ω', (∀ q ∈ ps, LName c'.env.scope q) ∧ (∀ x a, Ω₀.lookup x = some a → Ω'.lookup x = some a) ∧ (∀ a ∈ c'.own, s.heap.get? a = none) ∧ StS (prog, w) b0 c' E' p.2 Ω' h') → Q v { s with heap := h', toks := tk })
      (fun m => Ω₀ = [] ∧ XPost c s Ex m)) : wpAny (model prog w) c.A (call (.ref fa) vals []) Q Ex s := by
  obtain ⟨⟨o, fd, stmts, ho, hd, hb, hg, hbi, hcl, hk, hco, hgen, hcd, hbind, hps, hcn, hCB⟩, hnd⟩ := F
  refine wpAny_call (codeAny_call_function (by have := ok.depth; omega) (st.stay _ _ ho) hd hco hgen hb (hcd.keeps st.stay) (hbind s vals hlen _ _ _ _ ?_))
  rw [hcl]
  have hkind : ∀ x ∈ (ps.map nm).zip vals, fd.scope.names.lookup x.1 = some .local ∨ (fd.scope.names.lookup x.1 = some .cell ∧ ((cellsFrom (s.heap.objs.size + 1) fd.scope.names []).lookup x.1).isSome = true) := fun x hx => by
    obtain ⟨y, hy, hye⟩ := List.mem_map.mp (List.of_mem_zip hx).1
    rw [← hye]
    rcases (hps y hy).1 with q | q
    · exact .inl q
    · exact .inr ⟨q, cellsFrom_some _ _ _ (.inl q)⟩
  refine new_env hk hkind fun env he s' x hcls => ?_
  have hscope : env.scope = fd.scope := by rw [he]; rfl
  have hloc : env.locals = s.heap.objs.size := by rw [he]; rfl
  have hcells : env.cells = cellsFrom (s.heap.objs.size + 1) fd.scope.names [] := by rw [he]; rfl
  have hframe : env.frame = some env.locals := by rw [he]; rfl
  have hgl : env.globals = mainGlobals := by rw [he]; exact hg
  have hbl : env.builtins = builtinsNs := by rw [he]; exact hbi
  have hko : env.kindOf = fun y => fd.scope.names.lookup y := by rw [he]; rfl
  clear he
  obtain ⟨h₀, tk₀, rfl⟩ := x.toInCall.same
  have keep : ∀ b o, s.heap.get? b = some o → h₀.get? b = some o := x.toInCall.keep
  refine ⟨(S.nolimit.keeps st.stay).keeps keep, codeAny_func ?_⟩
  have hown : ∀ a ∈ (Cx.own ⟨env, c.A.deeper env, env :: c.stk⟩), s.heap.get? a = none := fun a ha => by
    rcases List.mem_cons.mp ha with rfl | ha
    · exact Heap.get?_none_of_le (by rw [hloc]; exact Nat.le_refl _)
    · obtain ⟨p, hp, rfl⟩ := List.mem_map.mp ha
      have := x.above p.1 p.2 hp
      exact Heap.get?_none_of_le (by rw [hloc] at this; exact Nat.le_of_lt this)
  have hcnd : (env.cells.map (·.1)).Nodup := by
    rw [hcells, cellsFrom_names _ _ 0 [] [] rfl]; exact hcn
  have hok : Cx.Ok ⟨env, c.A.deeper env, env :: c.stk⟩ n := by
    refine ⟨by rw [hscope]; exact hk, hgl, hbl, Around.frames_deeper ok.frames, ok.handled, ?_, ?_, fun y hy => ?_⟩
    · have := ok.depth; show c.A.depth + 1 + n < _; omega
    · have := ok.units; show c.A.units + 3 + 8 * n + 200 < _; omega
    · have := cellsFrom_some fd.scope.names (s.heap.objs.size + 1) [] (.inl (by rw [← hscope]; exact hy))
      rw [← hcells] at this
      exact Option.isSome_iff_exists.mp this
  have hfs : Cx.fs ⟨env, c.A.deeper env, env :: c.stk⟩ = env.locals :: c.fs := by
    show List.filterMap _ (env :: c.stk) = _
    rw [List.filterMap_cons, hframe]; rfl
  have none_b0 : ∀ a, s.heap.get? a = none → b0.get? a = none := fun a ha => by
    cases e : b0.get? a with
    | none => rfl
    | some ob => rw [st.stay _ _ e] at ha; cases ha
  have hOown : ∀ a ∈ (Cx.own ⟨env, c.A.deeper env, env :: c.stk⟩), a ∉ Ω₀.map (·.2) := fun a ha hb => by
    obtain ⟨⟨ob, e⟩, _⟩ := hO a hb
    rw [hown a ha] at e; cases e
  have hst : StS (prog, w) b0 ⟨env, c.A.deeper env, env :: c.stk⟩ E' φ₀ Ω₀ h₀ := by
    refine ⟨⟨fun b ob e => keep _ _ (st.stay _ _ e), ⟨?_, ?_, ?_⟩, ?_, ⟨_, _, x.toInCall.ns, x.cell, fun y sl e hl => ?_⟩, fun a ha => ?_, fun a ha => ?_⟩, ?_, hdom, fun y ds a e => absurd e (hacc y ds), ?_⟩
    · rw [hscope, hk]; decide
    · obtain ⟨ob, arr, _, e, e', _⟩ := x.toInCall.ns
      exact ⟨env.locals, ob, hframe, none_b0 _ (hown _ (.head _)), e, fun vs z => by rw [e'] at z; cases z⟩
    · exact st.ff.of_keeps fun b ob e _ => ⟨ob, keep _ _ e, rfl⟩
    · rw [hfs]
      intro b hb
      rcases List.mem_cons.mp hb with rfl | hb
      · exact hcls
      · obtain ⟨ob, e, hc⟩ := st.fc b hb
        exact ⟨ob, keep _ _ e, hc⟩
    · obtain ⟨v, hv, hsl⟩ := hslot h₀ _ keep hown y sl e
      have hname : atName ⟨env, c.A.deeper env, env :: c.stk⟩ (bindL env.kindOf ((ps.map nm).zip vals) fun _ => none) (bindC env.kindOf ((ps.map nm).zip vals) fun _ => none) (nm y) = some v := by
        unfold atName
        have hl' : env.kindOf (nm y) = some .local ∨ env.kindOf (nm y) = some .cell := by
          rw [hko]; dsimp only; rw [← hscope]; exact hl.1
        rcases hl' with q | q
        · dsimp only; rw [q]; exact bindL_at q hnd hv
        · dsimp only; rw [q]; exact bindC_at q hnd hv
      rw [hname]; exact hsl
    · rcases ha with ha | ha
      · obtain ⟨⟨ob, e⟩, _⟩ := hE a ha
        exact ⟨ob, keep _ _ e⟩
      · rcases List.mem_append.mp ha with ha | ha
        · rcases List.mem_cons.mp ha with rfl | ha
          · obtain ⟨ob, e, _⟩ := hcls; exact ⟨ob, e⟩
          · obtain ⟨p, hp, rfl⟩ := List.mem_map.mp ha
            obtain ⟨ob, e, _⟩ := x.cell p.1 p.2 (lookup_of_mem_nodup hcnd hp)
            exact ⟨ob, e⟩
        · obtain ⟨⟨ob, e⟩, _⟩ := hO a ha
          exact ⟨ob, keep _ _ e⟩
    · rcases ha with ha | ha
      · exact (hE a ha).2
      · rcases List.mem_append.mp ha with ha | ha
        · exact none_b0 _ (hown a ha)
        · exact (hO a ha).2
    · refine List.nodup_append.mpr ⟨List.nodup_cons.mpr ⟨fun ha => ?_, ?_⟩, hOn, fun a ha b hb e => hOown a ha (e ▸ hb)⟩
      · obtain ⟨p, hp, e⟩ := List.mem_map.mp ha
        exact Nat.ne_of_gt (x.above p.1 p.2 hp) e
      · exact List.pairwise_map.mpr x.apart
    · intro b hb hne hy
      rw [hfs] at hb
      rcases List.mem_cons.mp hb with rfl | hb
      · exact hne rfl
      · rcases List.mem_append.mp hy with hy | hy
        · obtain ⟨ob, e, _⟩ := st.fc b hb
          rw [hown b hy] at e; cases e
        · exact hap b hb hy
  have hkp : ∀ {h' : Heap} {Y : List Addr}, (∀ a ∈ Y, a ∈ (Cx.own ⟨env, c.A.deeper env, env :: c.stk⟩) ∨ a ∈ Ω₀.map (·.2)) → Kp (Cx.fs ⟨env, c.A.deeper env, env :: c.stk⟩) Y h₀ h' → Kp c.fs (Ω₀.map (·.2)) s.heap h' := fun hY k b ob e hb => by
    have hbo : b ∉ (Cx.own ⟨env, c.A.deeper env, env :: c.stk⟩) := fun z => by rw [hown b z] at e; cases e
    rcases k b ob (keep _ _ e) (fun z => (hY b z).elim hbo hb) with q | ⟨q1, q2, q3, q4⟩
    · exact .inl q
    · rw [hfs] at q1
      rcases List.mem_cons.mp q1 with rfl | q1
      · exact absurd (List.mem_cons_self) hbo
      · exact .inr ⟨q1, q2, q3, q4⟩
  refine blk_sound (c := ⟨env, c.A.deeper env, env :: c.stk⟩) (s := { s with heap := h₀, toks := tk₀ }) hX hok ⟨⟨c.stk, rfl⟩, hframe⟩ ⟨PassesOwn.leaving, fun hd => PassesOwnAt.leaving⟩ (by show CB env.scope stmts body; rw [hscope]; exact hCB) hst (H.mono (fun p _ Hp fl h' tk Ω' hfl k g st' => ?_) fun m _ X => ?_)
  · refine Hp _ h' tk ?_ (hkp (fun a ha => List.mem_append.mp ha) k) ⟨_, Ω', fun q hq => by show LName env.scope q; rw [hscope]; exact hps q hq, g.1, hown, st'⟩
    cases p with
    | mk f φ' =>
      cases f <;> cases fl <;> first | exact hfl.elim | exact hfl | rfl
  · obtain ⟨rfl, X⟩ := X
    intro h₁ y h' tk k gr lit
    exact leave_sound (c := ⟨env, c.A.deeper env, env :: c.stk⟩) (s := s) (outer := c.stk) (hc := s.heap) (Around.frames_deeper ok.frames) rfl hframe gr (hkp (fun a ha => List.mem_append.mp ha) k) (hown _ (.head _)) lit fun h'' fl => X y h'' tk fl
end
end Mine
end

section
set_option Elab.async false
namespace Mine
open PySem PySem.W PySem.Calls PyProof.Rows

section
variable (prog : Program) (w : World) (b0 : Heap) (mg : PySem.Str → Option Value)
noncomputable def SFn (r : Rec) (n : Nat) : Prop := ∀ (c : Cx) (E : List Addr) (φ : Frm) (Ω : List (String × Addr)) (s : Shared) (f : String) (fa : Addr) (us : List (V × Bool)) (vals : List Value) (Q : Value → Shared → Prop) (Ex : Value → Shared → Prop),
  mg (nm f) = some (.ref fa) → c.Ok n → St (prog, w) b0 c E φ Ω s.heap → RU (prog, w) (fun a => a ∉ E ∧ a ∉ c.Y Ω) s.heap vals us → G (r.fn f us) (EvPost (prog, w) c E Ω s Q) (XPost c s Ex) → wpAny (model prog w) c.A (call (.ref fa) vals []) Q Ex s
noncomputable def FmPost (c : Cx) (E : List Addr) (Ω : List (String × Addr)) (s : Shared) (a : Addr) (Q : Value → Shared → Prop) (q : (V × Bool) × List (PySem.Str × V)) : Prop :=
  ∀ v h' tk, Kp c.fs [a] s.heap h' → TabAt' (prog, w) (fun b => b ∉ E ∧ b ∉ c.Y Ω) h' a q.2 → R (prog, w) (fun b => q.1.2 = true → b ∉ E ∧ b ∉ c.Y Ω) h' v q.1.1 → Q v { s with heap := h', toks := tk }
noncomputable def SFm (r : Rec) (n : Nat) : Prop := ∀ (c : Cx) (E : List Addr) (φ : Frm) (Ω : List (String × Addr)) (s : Shared) (f t : String) (fa a : Addr) (kvs : List (PySem.Str × V)) (us : List (V × Bool)) (ds : List V) (vals : List Value) (X : Msg → Prop) (Q : Value → Shared → Prop) (Ex : Value → Shared → Prop),
  mg (nm f) = some (.ref fa) → c.Ok n → StS (prog, w) b0 c E φ Ω s.heap → Ω.lookup t = some a → TabAt' (prog, w) (fun b => b ∉ E ∧ b ∉ c.Y Ω) s.heap a kvs → RU (prog, w) (fun a => a ∉ E ∧ a ∉ c.Y Ω) s.heap vals us → fzs us = .ok ds →
  G (r.fm f kvs us) (FmPost prog w c E Ω s a Q) X → wpAny (model prog w) c.A (call (.ref fa) (.ref a :: vals) []) Q Ex s
noncomputable def SHas (r : Rec) : Prop := ∀ f, r.has f = true → ∃ fa o fd, mg (nm f) = some (.ref fa) ∧ b0.get? fa = some o ∧ o.data = .func fd
noncomputable def TblOk (tbl : Tbl) : Prop := ∀ f ps body, tbl f = some (ps, body) → ∃ fa, mg (nm f) = some (.ref fa) ∧ FnOk b0 fa ps body
end

theorem zip_slot {P : Program × World} {okk : Addr → Prop} {h : Heap} {x : String} {sl : Slot} {ps : List String} : ∀ {vals : List Value} {us : List (V × Bool)}, RU P okk h vals us → (ps.zip (us.map fun u => Slot.val u.1 u.2)).lookup x = some sl →
    ∃ v u, (ps.zip vals).lookup x = some v ∧ sl = .val u.1 u.2 ∧ u ∈ us ∧ R P (fun a => u.2 = true → okk a) h v u.1 := by
  induction ps with
  | nil => intro vals us _ hl; cases hl
  | cons p ps ih =>
    intro vals us ru hl
    cases ru with
    | nil => cases hl
    | cons hr ru =>
    rename_i v _ u _
    simp only [List.map_cons, List.zip_cons_cons, List.lookup_cons] at hl ⊢
    by_cases e : x = p
    · subst e
      simp only [beq_self_eq_true] at hl ⊢
      cases hl
      exact ⟨v, u, rfl, rfl, .head _, hr⟩
    · rw [beq_eq_false_iff_ne.mpr e] at hl ⊢
      obtain ⟨v', u', h1, h2, h3, h4⟩ := ih ru hl
      exact ⟨v', u', h1, h2, .tail _ h3, h4⟩
theorem zip_val {x : String} {sl : Slot} {ps : List String} {us : List (V × Bool)} (h : (ps.zip (us.map fun u => Slot.val u.1 u.2)).lookup x = some sl) : ∃ d f, sl = .val d f := by
  induction ps generalizing us with
  | nil => simp at h
  | cons p ps ih =>
    cases us with
    | nil => simp at h
    | cons u us =>
      simp only [List.map_cons, List.zip_cons_cons, List.lookup_cons] at h
      by_cases e : x = p
      · subst e; simp only [beq_self_eq_true] at h; cases h; exact ⟨_, _, rfl⟩
      · rw [beq_eq_false_iff_ne.mpr e] at h; exact ih h
theorem fzs_mem {us : List (V × Bool)} {ds : List V} (h : fzs us = .ok ds) : ∀ u ∈ us, (u.2 || u.1.atom) = true := by
  induction us generalizing ds with
  | nil => intro u hu; cases hu
  | cons u us ih =>
    dsimp only [fzs] at h
    cases h1 : fzV u with
    | ok d =>
      rw [h1] at h
      dsimp only [Res.bind] at h
      cases h2 : fzs us with
      | ok ds' =>
        intro u' hu
        rcases List.mem_cons.mp hu with rfl | hu
        · unfold fzV at h1; split at h1
          · assumption
          · cases h1
        · exact ih h2 u' hu
      | exc m => rw [h2] at h; cases h
      | bad => rw [h2] at h; cases h
    | exc m => rw [h1] at h; cases h
    | bad => rw [h1] at h; cases h
theorem fz_atom {P : Program × World} {okk ok' : Addr → Prop} {h h' : Heap} {v : Value} {u : V × Bool} (hu : (u.2 || u.1.atom) = true) (r : R P (fun a => u.2 = true → okk a) h v u.1) (k : UpAt okk h h') (hk : ∀ b o, okk b → h.get? b = some o → ok' b) : R P ok' h' v u.1 := by
  rcases Bool.or_eq_true_iff.mp hu with e | e
  · exact r.mono (fun b o hb => k b o (hb e)) fun b o hb => hk b o (hb e)
  · exact r.atom_any e

section
variable {prog : Program} {w : World} {b0 : Heap} {mg mb : PySem.Str → Option Value} {consts : String → Option V} {r : Rec} {n : Nat} {c : Cx} {E : List Addr} {φ : Frm} {Ω : List (String × Addr)} {s : Shared} {Ex : Value → Shared → Prop} {tbl : Tbl}

theorem fn_sound (S : Stat (prog, w) b0 mg mb consts) (hT : TblOk b0 mg tbl) (hX : SEx prog w b0 r n) {r' : Rec} (hr : r'.fn = fnI tbl r) : SFn prog w b0 mg r' (n + 1) := by
  intro c E φ Ω s f fa us vals Q Ex hm ok st ru H
  rw [hr] at H
  unfold fnI at H
  cases ht : tbl f with
  | none => rw [ht] at H; exact H.elim
  | some q =>
    obtain ⟨ps, body⟩ := q
    rw [ht] at H
    obtain ⟨fa', e, F⟩ := hT f ps body ht
    rw [hm] at e; cases e
    rcases G.ite H with ⟨hlen, H⟩ | ⟨_, H⟩
    · refine call_core (E' := E ++ c.Y Ω) (φ₀ := ps.zip (us.map fun u => Slot.val u.1 u.2)) (Ω₀ := []) S F hX ok st.ground (by rw [ru.length, hlen]) (fun a ha => ⟨st.alive a (List.mem_append.mp ha), st.off a (List.mem_append.mp ha)⟩) (fun a ha => nomatch ha) List.nodup_nil ?_ (fun _ _ => rfl) (fun x ds z => by obtain ⟨d, f, e⟩ := zip_val z; cases e) (fun _ _ z => nomatch z) (H.bind.mono (fun p _ Hp v h' tk hv k _ => ?_) fun m _ X => ⟨rfl, X⟩)
      · intro h₀ own keep hown x sl hsl
        obtain ⟨v, u, h1, rfl, _, h4⟩ := zip_slot ru hsl
        refine ⟨v, h1, v, rfl, h4.mono (fun b o _ e _ => keep b o e) fun b o hb e => ⟨fun hf z => ?_, fun z => ?_⟩⟩
        · rcases List.mem_append.mp z with z | z
          · exact (hb hf).1 z
          · exact (hb hf).2 z
        · rcases List.mem_append.mp z with z | z
          · rw [hown b z] at e; cases e
          · cases z
      · obtain ⟨fl, φ'⟩ := p
        cases fl with
        | next =>
          have hv : v = .none := hv
          subst hv
          exact (show EvPost (prog, w) c E Ω s Q (.none, true) from Hp) _ _ _ k .none
        | cont => exact (show False from Hp).elim
        | brk => exact (show False from Hp).elim
        | ret d f =>
          have hv : R (prog, w) (fun a => f = true → a ∉ E ++ c.Y Ω) h' v d := hv
          exact (show EvPost (prog, w) c E Ω s Q (d, f) from Hp) _ _ _ k (hv.weak fun b hb hf => ⟨fun z => hb hf (List.mem_append_left _ z), fun z => hb hf (List.mem_append_right _ z)⟩)
    · exact H.elim
theorem fm_sound (S : Stat (prog, w) b0 mg mb consts) (hT : TblOk b0 mg tbl) (hX : SEx prog w b0 r n) {r' : Rec} (hr : r'.fm = fmI tbl r) : SFm prog w b0 mg r' (n + 1) := by
  intro c E φ Ω s f t fa a kvs us ds vals X Q Ex hm ok st ha htab ru hfz H
  have haY : a ∈ c.Y Ω := omega_Y ha
  have hal := st.st.alive a (.inr haY)
  rw [hr] at H
  unfold fmI at H
  cases ht : tbl f with
  | none => rw [ht] at H; exact H.elim
  | some q =>
    obtain ⟨ps, body⟩ := q
    rw [ht] at H
    cases ps with
    | nil => exact (show False from H).elim
    | cons p0 ps =>
      obtain ⟨fa', e, F⟩ := hT f _ body ht
      rw [hm] at e; cases e
      have hnd := List.nodup_cons.mp F.nodup
      rcases G.ite H with ⟨hlen, H⟩ | ⟨_, H⟩
      · refine call_core (E' := E ++ c.Y Ω) (φ₀ := (p0, .tab kvs) :: ps.zip (us.map fun u => Slot.val u.1 u.2)) (Ω₀ := [(p0, a)]) S F hX ok st.st.ground (by rw [List.length_cons, List.length_cons, ru.length, hlen]) (fun b hb => ⟨st.st.alive b (List.mem_append.mp hb), st.st.off b (List.mem_append.mp hb)⟩)
          (fun b hb => by cases List.mem_singleton.mp hb; exact ⟨hal, st.st.off a (.inr haY)⟩) (by simp) ?_ (fun x hx => ?_) (fun x ds z => ?_) (fun b hb z => ?_) ?_
        · intro h₀ own keep hown x sl hsl
          have notY : ∀ b, b ∉ E ∧ b ∉ c.Y Ω → (∃ o, s.heap.get? b = some o) → b ∉ E ++ c.Y Ω ∧ b ∉ own ++ [(p0, a)].map (·.2) := fun b hb ⟨o, e⟩ => ⟨fun z => (List.mem_append.mp z).elim hb.1 hb.2, fun z => by
            rcases List.mem_append.mp z with z | z
            · rw [hown b z] at e; cases e
            · cases List.mem_singleton.mp z; exact hb.2 haY⟩
          rw [List.lookup_cons] at hsl
          by_cases e : x = p0
          · subst e
            simp only [beq_self_eq_true] at hsl
            cases hsl
            obtain ⟨qs, es, t1, t2, t3, t4, t5⟩ := htab
            refine ⟨.ref a, by simp [List.zip_cons_cons], a, by simp, rfl, qs, es, dict_up t1 (fun o e _ => keep a o e), t2, t3.mono (fun b o _ e _ => keep b o e) (fun b o hb e => notY b hb ⟨o, e⟩), t4, t5⟩
          · rw [beq_eq_false_iff_ne.mpr e] at hsl
            obtain ⟨v, u, h1, rfl, h3, h4⟩ := zip_slot ru hsl
            refine ⟨v, by rw [List.zip_cons_cons, List.lookup_cons, beq_eq_false_iff_ne.mpr e]; exact h1, v, rfl, fz_atom (fzs_mem hfz u h3) h4 (fun b o _ e _ => keep b o e) fun b o hb e => ⟨fun _ => (notY b hb ⟨o, e⟩).1, (notY b hb ⟨o, e⟩).2⟩⟩
        · rw [List.lookup_cons] at hx ⊢
          by_cases e : x = p0
          · subst e; simp only [beq_self_eq_true] at hx; cases hx
          · rw [beq_eq_false_iff_ne.mpr e]; rfl
        · rw [List.lookup_cons] at z
          by_cases e : x = p0
          · subst e; simp only [beq_self_eq_true] at z; cases z
          · rw [beq_eq_false_iff_ne.mpr e] at z; obtain ⟨d, f, e⟩ := zip_val z; cases e
        · cases List.mem_singleton.mp z
          by_cases e : a = c.env.locals
          · exact st.not_own ha (by rw [e]; exact .head _)
          · exact st.apart a hb e haY
        · cases hb : blk r ((p0, .tab kvs) :: ps.zip (us.map fun u => Slot.val u.1 u.2)) body with
          | bad => rw [hb] at H; exact (show False from H).elim
          | exc m => rw [hb] at H; exact (show False from H).elim
          | ok p =>
            rw [hb] at H
            intro v h' tk hv k ⟨c', Ω', hps, hgr, hown, st'⟩
            obtain ⟨fl, φ'⟩ := p
            cases hl : φ'.lookup p0 with
            | none => dsimp only at H; rw [hl] at H; exact (show False from H).elim
            | some sl =>
              dsimp only at H
              rw [hl] at H
              cases sl with
              | val => exact (show False from H).elim
              | acc => exact (show False from H).elim
              | gone => exact (show False from H).elim
              | tab kvs' =>
                obtain ⟨m, cm, _, _, h3⟩ := st'.st.loc
                obtain ⟨a', q1, q2, q3⟩ := h3 p0 _ hl (hps p0 (.head _))
                rw [hgr p0 a (by simp)] at q1; cases q1
                have q3' : TabAt' (prog, w) (fun b => b ∉ E ∧ b ∉ c.Y Ω) h' a kvs' := q3.up (fun _ e _ => e) (fun _ _ _ e _ => e) fun b hb => ⟨fun z => hb.1 (List.mem_append_left _ z), fun z => hb.1 (List.mem_append_right _ z)⟩
                cases fl with
                | next =>
                  have hv : v = .none := hv
                  subst hv
                  exact (show FmPost prog w c E Ω s a Q ((.none, true), kvs') from H) _ _ _ k q3' .none
                | cont => exact (show False from H).elim
                | brk => exact (show False from H).elim
                | ret d f =>
                  have hv : R (prog, w) (fun a => f = true → a ∉ E ++ c.Y Ω) h' v d := hv
                  exact (show FmPost prog w c E Ω s a Q ((d, f), kvs') from H) _ _ _ k q3' (hv.weak fun b hb hf => ⟨fun z => hb hf (List.mem_append_left _ z), fun z => hb hf (List.mem_append_right _ z)⟩)
      · exact H.elim
end
end Mine
end

section
set_option Elab.async false
namespace Mine
open PySem PySem.W PySem.Calls PyProof.Rows

section
variable {prog : Program} {w : World} {b0 : Heap} {mg mb : PySem.Str → Option Value} {consts : String → Option V} {r : Rec} {n : Nat} {c : Cx} {E : List Addr} {φ : Frm} {Ω : List (String × Addr)} {s : Shared} {Ex : Value → Shared → Prop}

theorem fzs_exc {us : List (V × Bool)} {m : Msg} : fzs us ≠ .exc m := by
  induction us with
  | nil => intro h; cases h
  | cons u us ih =>
    intro hfz
    dsimp only [fzs] at hfz
    unfold fzV at hfz
    split at hfz
    · dsimp only [Res.bind] at hfz
      cases h2 : fzs us with
      | ok ds' => rw [h2] at hfz; cases hfz
      | exc m' => exact ih (by rw [h2] at hfz; cases hfz; exact h2)
      | bad => rw [h2] at hfz; cases hfz
    · cases hfz
theorem back_cons {p : Pos} {e : Expr} {es : List Expr} {i : IE} (h : CE c.env.scope e i) : backTo p (starEach (e :: es) c.env) = (false, eval e c.env) :: backTo p (starEach es c.env) := by rw [h.star]; rfl
theorem ev_call {Q : Value → Shared → Prop} {f : String} {np p : Pos} {args : List Expr} {is : List IE} (S : Stat (prog, w) b0 mg mb consts) (hE : SEv prog w b0 r n) (hF : SFn prog w b0 mg r n) (hH : SHas b0 mg r) (ok : c.Ok n) (st : St (prog, w) b0 c E φ Ω s.heap) (hn : GName c.env.scope f) (ha : CEs c.env.scope args is)
    (H : G (evI consts r φ (.call f is)) (EvPost (prog, w) c E Ω s Q) (XPost c s Ex)) : wpAny (model prog w) c.A (eval (.Call (.Name (nm f) np) args [] p) c.env) Q Ex s := by
  dsimp only [evI] at H
  rcases G.ite H with ⟨q, H⟩ | ⟨_, H⟩
  · obtain ⟨fa, o, fd, hm, ho, hd⟩ := hH f q
    refine Call_ (ld_glob S ok st hn hm (callWith_function (o := o) (fd := fd) (first := []) ?_))
    have fin : ∀ us vs h₁ tk₁, Kp c.fs [] s.heap h₁ → RU (prog, w) (fun a => a ∉ E ∧ a ∉ c.Y Ω) h₁ vs us → G (r.fn f us) (EvPost (prog, w) c E Ω s Q) (XPost c s Ex) →
        (h₁.get? fa = some o ∧ o.data = .func fd) ∧ wpAny (model prog w) c.A (call (.ref fa) ([] ++ vs) []) Q Ex { s with heap := h₁, toks := tk₁ } := fun us vs h₁ tk₁ k₁ ru Hus =>
      ⟨⟨(st.kp k₁).stay _ _ ho, hd⟩, hF c E φ Ω { s with heap := h₁, toks := tk₁ } f fa us vs Q Ex hm ok (st.kp k₁) ru (Hus.mono (fun _ _ Hq => Hq.step k₁) fun _ _ X => X.step k₁)⟩
    cases ha with
    | nil => exact evalArgs_kw_nil rfl (wpAny_evalAll_nil (fin [] [] s.heap s.toks .refl .nil H))
    | cons a0 as =>
      rw [back_cons a0]
      refine evalArgs_plain ?_
      rw [← back_cons a0]
      exact ev_args hE ok (.cons a0 as) st (H.bind.mono (fun us _ Hus vs h₁ tk₁ k₁ ru => fin us vs h₁ tk₁ k₁ ru Hus) fun _ _ X => X)
  · exact H.elim

theorem ex_appendMut {Q : Flow → Shared → Prop} {x f t : String} {xp ap fp tp ip cp p : Pos} {args : List Expr} {es : List IE} (S : Stat (prog, w) b0 mg mb consts) (hE : SEv prog w b0 r n) (hF : SFm prog w b0 mg r n) (hH : SHas b0 mg r) (ok : c.Ok n) (st : StS (prog, w) b0 c E φ Ω s.heap) (hn : LName c.env.scope x) (hl : (ap.endLine == cp.line) = true) (hf : GName c.env.scope f) (ht : LName c.env.scope t) (ha : CEs c.env.scope args es) 
    (H : G (exI r φ (.appendMut x f t es)) (ExPost (prog, w) b0 c E Ω s Q) (XPostS b0 c Ω s Ex)) : wpAny (model prog w) c.A (exec (.Expr (.Call (.Attribute (.Name (nm x) xp) (nm "append") ap) [.Call (.Name (nm f) fp) (.Name (nm t) tp :: args) [] ip] [] cp) p) c.env) Q Ex s := by
  dsimp only [exI] at H
  obtain ⟨ds, hx, H⟩ := G.onAcc H
  obtain ⟨kvs, htl, H⟩ := G.onTab H
  obtain ⟨⟨hxt, hhas⟩, H⟩ := H.need
  obtain ⟨fa, o, fd, hm, ho, hd⟩ := hH f hhas
  obtain ⟨m, cm, h1, h2, h3⟩ := st.st.loc
  obtain ⟨a, vs, q1, q2, q4, q5⟩ := h3 x _ hx hn
  obtain ⟨at', u1, u2, u3⟩ := h3 t _ htl ht
  refine wpAny_Expr_any (wpAny_Call_method (T := "list") (id := "list.append") rfl rfl hl F.plainAttrs_list F.slot_list_append F.type_list_append ?_) (not_interactive ok)
  refine ld_at ok hn h1 h2 q2 ⟨q4.list.isList.typeIs, fun b e => (by cases e; obtain ⟨k, e'⟩ := q4.1; exact ⟨_, e', rfl⟩), ?_⟩
  refine callWith_method1 ?_ rfl rfl
  refine args_cons ?_ rfl
  refine Call_ (ld_glob S ok st.st hf hm (callWith_function (o := o) (fd := fd) (first := []) ?_))
  rw [back_cons (CE.var ht)]
  refine evalArgs_plain (spliced_cons (ld_at ok ht h1 h2 u2 ?_))
  refine ev_args hE ok ha st.st (H.bind.mono (fun us _ Hus vals h₁ tk₁ k₁ ru => ⟨⟨(st.st.kp k₁).stay _ _ ho, hd⟩, ?_⟩) fun _ _ X => X.now st.st)
  cases hfz : fzs us with
  | bad => rw [hfz] at Hus; exact Hus.elim
  | exc m' => exact absurd hfz fzs_exc
  | ok dz =>
    rw [hfz] at Hus
    have st₁ := st.kp k₁
    have u3' : TabAt' (prog, w) (fun b => b ∉ E ∧ b ∉ c.Y Ω) h₁ at' kvs := u3.up (fun o e hc => k₁.same e (by simp) hc) (k₁.up fun _ _ => by simp) fun _ x => x
    refine hF c E φ Ω { s with heap := h₁, toks := tk₁ } f t fa at' kvs us dz vals _ _ _ hm ok st₁ u1 u3' ru hfz ((G.bind (res := r.fm f kvs us) Hus).mono (fun q _ Hq v h₂ tk₂ k₂ q3 rv => ?_) fun _ _ X => X)
    refine args_nil ?_
    obtain ⟨rv, Hq⟩ := Hq.bind.fz rv
    obtain ⟨hlt, Hq⟩ := Hq.need
    have st₂ : StS (prog, w) b0 c E (upd t (.tab q.2) φ) Ω h₂ := st₁.mutK ht htl (fun mv q => by obtain ⟨b, q1, q2, _⟩ := q; rw [u1] at q1; cases q1; exact q2) u1 k₂ (let ⟨_, _, ⟨o, _, _, e, _⟩, _⟩ := q3; ⟨o, e⟩) ⟨at', u1, rfl, q3⟩ fun ds e => nomatch e
    have hx' : (upd t (.tab q.2) φ).lookup x = some (.acc ds) := by rw [upd_lookup, if_neg hxt]; exact hx
    refine append_sound (s := { s with heap := h₂, toks := tk₂ }) st₂ hn hx' q1 hlt rv fun h' k st' => ?_
    refine Hq .next h' _ Ω trivial ?_ .refl st'
    exact ((k₁.weak fun _ z => nomatch z).trans (k₂.weak fun b z => by cases List.mem_singleton.mp z; exact omega_Y u1)).trans k
end
end Mine
end

section
set_option Elab.async false
namespace Mine
open PySem PySem.W PySem.Calls PyProof.Rows

section
variable {prog : Program} {w : World} {b0 : Heap} {c : Cx} {s : Shared} {Ex : Value → Shared → Prop} {A : Around}

/-- the frame notes the exception -/
theorem lit_note {h₁ h' : Heap} {x : Addr} {m : Msg} {tk : Nat} {QU : Unit → Shared → Prop} (hA : A.frames = some c.stk) (fn : c.Fn) (g : Ground b0 c h₁) (lit : Lit c.stk h₁ x m h')
    (H : ∀ h'', HeldX c.stk h₁ x m h'' → QU () { s with heap := h'', toks := tk }) : wpAny (model prog w) A (noteFrame (.ref x) c.env) QU Ex { s with heap := h', toks := tk } := by
  obtain ⟨outer, hs⟩ := fn.head
  have hf := fn.frame
  have hhd : (c.stk.head?.bind (·.frame)) = some c.env.locals := by rw [hs]; exact hf
  rcases lit with f | r | hx
  · obtain ⟨t, tk', fl, ht, hn⟩ := f.fly
    have base : wpAny (model prog w) A (noteFrame (.ref x) c.env) (fun _ s' => ∃ h'', s' = { s with heap := h'', toks := tk } ∧ Heap.HeldW (hideAll h₁ (c.stk.filterMap (·.frame))) c.stk x (.type "ValueError") (.ref t) c.env.locals h'' ∧ h'.UpToSlots h'') Ex { s with heap := h', toks := tk } := by
      refine wpAny_looks_onW (s := { s with heap := h', toks := tk }) (hA.trans (by rw [hs])) hf (show Heap.FlyingW (hideAll h₁ (c.stk.filterMap (·.frame))) (c.env :: outer) x (.type "ValueError") (.ref t) h' by rw [← hs]; exact fl) fun h'' fl' up' => ⟨h'', rfl, ?_, up'⟩
      rw [← hs] at fl'; exact fl'
    refine wpAny_mono (wpAny_tame' (b := m.2) (e := x) (Tame.note _ _) f.ctx base) (fun _ s' hq => ?_) fun _ _ y => y
    obtain ⟨hc2, h'', rfl, fl', up'⟩ := hq
    exact H h'' ⟨⟨t, tk', _, hhd, fl', ht.of_slots up', hn⟩, f.up.trans up', f.len, hc2⟩
  · obtain ⟨o, vs, t, tk', e, hcl, hd, v0, v1, v2, tn, ht⟩ := r.there
    have hff : h'.FunFrames (hideAll h₁ (c.stk.filterMap (·.frame))) c.stk := ff_base (fun _ z => z) g.ff r.keeps
    have hkb : (hideAll h₁ (c.stk.filterMap (·.frame))).StaysIn h' := fun b ob eb => r.keeps b ob (of_hideAll _ eb)
    have no : ∀ {a}, h₁.get? a = none → (hideAll h₁ (c.stk.filterMap (·.frame))).get? a = none := fun {a} ea => by
      cases q : (hideAll h₁ (c.stk.filterMap (·.frame))).get? a with
      | none => rfl
      | some ob => rw [of_hideAll _ q] at ea; cases ea
    have base : wpAny (model prog w) A (noteFrame (.ref x) c.env) (fun _ s' => ∃ h'', s' = { s with heap := h'', toks := tk } ∧ Heap.HeldW (hideAll h₁ (c.stk.filterMap (·.frame))) c.stk x (.type "ValueError") (.ref t) c.env.locals h'' ∧ h'.UpToSlots h'') Ex { s with heap := h', toks := tk } := by
      unfold noteFrame
      simp only [hf]
      refine wpAny_bind (wpAny_field e hd v1 ?_)
      rw [if_neg (by decide)]
      refine wpAny_entryW (s := { s with heap := h', toks := tk }) (base := hideAll h₁ (c.stk.filterMap (·.frame))) (outer := outer) (hA.trans (by rw [hs])) (by rw [← hs]; exact hff) hf e hkb (no r.new) hd (Array.getElem?_eq_some_iff.mp v1).1 v0 fun h'' hl => ?_
      obtain ⟨k1, k2, k3, k4⟩ := hl
      rw [hcl] at k3
      exact ⟨h'', rfl, ⟨k1, no r.new, by rw [hs]; rw [hs] at k2; exact k2, k3⟩, k4⟩
    refine wpAny_mono (wpAny_tame' (b := m.2) (e := x) (Tame.note _ _) r.f2 base) (fun _ s' hq => ?_) fun _ _ y => y
    obtain ⟨hc2, h'', rfl, fl', up'⟩ := hq
    exact H h'' ⟨⟨t, tk', _, hhd, fl', ht.of_slots up', no tn⟩, (Heap.UpToSlots.of_keeps r.keeps).trans up', r.len, hc2⟩
  · obtain ⟨t, tk', L, hLe, hh, ht, hn⟩ := id hx.fly
    have hLe' : L = c.env.locals := Option.some.inj (hLe.symm.trans hhd)
    subst hLe'
    exact wpAny_noteFrame_againW hf hh.2.2.2 (H h' hx)
theorem held_land {h₁ h' : Heap} {x : Addr} {m : Msg} {tk : Nat} {QU : Unit → Shared → Prop} (hx : HeldX c.stk h₁ x m h')
    (H : ∀ h'', Fly c.stk h₁ x m h'' → QU () { s with heap := h'', toks := tk }) : wpAny (model prog w) A (setFlight (.ref x) none) QU Ex { s with heap := h', toks := tk } := by
  obtain ⟨t, tk', L, hLe, hh, ht, hn⟩ := hx.fly
  have base : wpAny (model prog w) A (setFlight (.ref x) none) (fun _ s' => ∃ h'', s' = { s with heap := h'', toks := tk } ∧ Heap.FlyingW (hideAll h₁ (c.stk.filterMap (·.frame))) c.stk x (.type "ValueError") (.ref t) h'' ∧ h'.UpToSlots h'') Ex { s with heap := h', toks := tk } :=
    wpAny_landsW (s := { s with heap := h', toks := tk }) hh fun h'' fl' up' => ⟨h'', rfl, fl', up'⟩
  refine wpAny_mono (wpAny_tame' (b := m.2) (e := x) (Tame.flight _ _) hx.ctx base) (fun _ s' hq => ?_) fun _ _ y => y
  obtain ⟨hc2, h'', rfl, fl', up'⟩ := hq
  exact H h'' ⟨⟨t, tk', fl', ht.of_slots up', hn⟩, hx.up.trans up', hx.len, hc2⟩
theorem fly_land {h₁ h' : Heap} {x : Addr} {m : Msg} {tk : Nat} {QU : Unit → Shared → Prop} (f : Fly c.stk h₁ x m h')
    (H : ∀ h'', Fly c.stk h₁ x m h'' → QU () { s with heap := h'', toks := tk }) : wpAny (model prog w) A (setFlight (.ref x) none) QU Ex { s with heap := h', toks := tk } := by
  obtain ⟨t, tk', fl, ht, hn⟩ := f.fly
  have base : wpAny (model prog w) A (setFlight (.ref x) none) (fun _ s' => ∃ h'', s' = { s with heap := h'', toks := tk } ∧ Heap.FlyingW (hideAll h₁ (c.stk.filterMap (·.frame))) c.stk x (.type "ValueError") (.ref t) h'' ∧ h'.UpToSlots h'') Ex { s with heap := h', toks := tk } :=
    lands_againW (s := { s with heap := h', toks := tk }) fl fun h'' fl' up' => ⟨h'', rfl, fl', up'⟩
  refine wpAny_mono (wpAny_tame' (b := m.2) (e := x) (Tame.flight _ _) f.ctx base) (fun _ s' hq => ?_) fun _ _ y => y
  obtain ⟨hc2, h'', rfl, fl', up'⟩ := hq
  exact H h'' ⟨⟨t, tk', fl', ht.of_slots up', hn⟩, f.up.trans up', f.len, hc2⟩
theorem lit_land {h₁ h' : Heap} {x : Addr} {m : Msg} {tk : Nat} {QU : Unit → Shared → Prop} (hA : A.frames = some c.stk) (fn : c.Fn) (g : Ground b0 c h₁) (lit : Lit c.stk h₁ x m h')
    (H : ∀ h'', Fly c.stk h₁ x m h'' → QU () { s with heap := h'', toks := tk }) : wpAny (model prog w) A (noteFrame (.ref x) c.env) (fun _ s₂ => wpAny (model prog w) A (setFlight (.ref x) none) QU Ex s₂) Ex { s with heap := h', toks := tk } :=
  lit_note hA fn g lit fun h'' hx => held_land hx H
theorem Fly.kpG {h₁ h' : Heap} {x : Addr} {m : Msg} (f : Fly c.stk h₁ x m h') (g : Ground b0 c h₁) : Kp c.fs [] h₁ h' := f.kp (fun b hb => by obtain ⟨_, o, e, hd⟩ := g.ff.mem hb; exact ⟨o, e, hd⟩) g.fc
end
end Mine
end

section
set_option Elab.async false
namespace Mine
open PySem PySem.W PySem.Calls PyProof.Rows

theorem upd_same {x : String} {sl : Slot} {φ : Frm} (h : φ.lookup x = some sl) : upd x sl φ = φ := by
  induction φ with
  | nil => cases h
  | cons p φ ih =>
    obtain ⟨y, s⟩ := p
    rw [List.lookup_cons] at h
    unfold upd
    by_cases e : y = x
    · subst e
      simp only [beq_self_eq_true] at h
      cases h
      rw [if_pos rfl]
    · rw [if_neg e]
      rw [beq_eq_false_iff_ne.mpr (Ne.symm e)] at h
      rw [ih h]
section
variable {prog : Program} {w : World} {b0 : Heap} {mg mb : PySem.Str → Option Value} {consts : String → Option V} {r : Rec} {n : Nat} {c : Cx} {E : List Addr} {φ : Frm} {Ω : List (String × Addr)} {s : Shared} {Q : Flow → Shared → Prop} {Ex : Value → Shared → Prop} {A : Around}

theorem fly_data {P : Program × World} {h h' : Heap} {x : Addr} {m : Msg} (f : Fly c.stk h x m h') (st : StS P b0 c E φ Ω h) : ∃ t tk, h'.ExcAt x "ValueError" (.ref t) ∧ h'.TupAt t [.str m.1 tk] ∧ x ∉ c.Y Ω ∧ t ∉ c.Y Ω := by
  have kp := f.kpG st.st.ground
  obtain ⟨t, tk, fl, ht, hn⟩ := f.fly
  obtain ⟨f1, f2, f3, oe, vs, T, oT, ts, he, ⟨hc, h0⟩, hd, _⟩ := fl
  obtain ⟨ot, nt, et, ct, dt⟩ := id ht
  refine ⟨t, tk, ⟨oe, vs, he, hc, hd, h0⟩, ht, fun z => ?_, fun z => ?_⟩
  · obtain ⟨o, e⟩ := st.st.alive x (.inr z)
    by_cases hb : x ∈ c.stk.filterMap (·.frame)
    · obtain ⟨_, o', e', hd'⟩ := f3.mem hb
      rw [he] at e'; cases e'; exact hd' _ hd
    · rw [hideAll_get _ e hb] at f2; cases f2
  · obtain ⟨o, e⟩ := st.st.alive t (.inr z)
    by_cases hb : t ∈ c.stk.filterMap (·.frame)
    · obtain ⟨o', e', hc'⟩ := fc_kp st.st.fc kp (by simp) t hb
      rw [et] at e'; cases e'
      exact noFrame ct (by decide) hc'
    · rw [hideAll_get _ e hb] at hn; cases hn
theorem exc_kp {fs Y : List Addr} {h h' : Heap} {x : Addr} {a0 : Value} (k : Kp fs Y h h') (hx : x ∉ Y) (e : h.ExcAt x "ValueError" a0) : h'.ExcAt x "ValueError" a0 := by
  obtain ⟨o, vs, e1, e2, e3⟩ := e
  exact ⟨o, vs, k.same e1 hx (noFrame e2 (by decide)), e2, e3⟩
theorem tup_kp {fs Y : List Addr} {h h' : Heap} {t : Addr} {vs : List Value} (k : Kp fs Y h h') (hx : t ∉ Y) (e : h.TupAt t vs) : h'.TupAt t vs := by
  obtain ⟨o, n, e1, e2, e3⟩ := e
  exact ⟨o, n, k.same e1 hx (noFrame e2 (by decide)), e2, e3⟩

/-- the name of a handler is stored -/
theorem put_gone {er : String} {v : Value} (ok : c.Ok n) (st : StS (prog, w) b0 c E φ Ω s.heap) (hn : LName c.env.scope er) {QU : Unit → Shared → Prop}
    (H : ∀ h' tk, Kp c.fs c.own s.heap h' → StS (prog, w) b0 c E (upd er .gone φ) Ω h' → (∃ m cm, h'.Ns c.env.locals m ∧ (∀ n k, c.env.cells.lookup n = some k → h'.IsCell k (cm n)) ∧ atName c m cm (nm er) = some v ) → QU () { s with heap := h', toks := tk }) :
    wpAny (model prog w) A (storeName c.env (nm er) v) QU Ex s := by
  obtain ⟨m, cm, h1, h2, h3⟩ := st.st.loc
  refine store_sound ok st.own_nodup hn h1 h2 fun h' tk pt => ?_
  have st' : StS (prog, w) b0 c E (upd er .gone φ) Ω h' := st.put h3 pt (fun _ _ => rfl) (fun b hb => .inl hb) st.nodup trivial fun ds a e => nomatch e
  refine H h' tk pt.keep st' ?_
  obtain ⟨m', cm', l1, l2, l3, l4⟩ := id pt.loc
  exact ⟨m', cm', l1, l2, l3⟩
/-- behind the handler -/
theorem gone_goes {er : String} {pos : Pos} (ok : c.Ok n) (st : StS (prog, w) b0 c E φ Ω s.heap) (hl : c.env.scope.names.lookup (nm er) = some .local) (hg : φ.lookup er = some .gone) {QU : Unit → Shared → Prop}
    (H : ∀ h' tk, Kp c.fs c.own s.heap h' → StS (prog, w) b0 c E φ Ω h' → Heap.SameBut c.env.locals s.heap h' → QU () { s with heap := h', toks := tk }) :
    wpAny (model prog w) A (do bindName c.env (nm er) .none; unbindBehindTheSuite c.env (nm er) pos) QU Ex s := by
  obtain ⟨m, cm, h1, h2, h3⟩ := st.st.loc
  have ndl : c.env.locals ∉ c.env.cells.map (·.2) := (List.nodup_cons.mp st.own_nodup).1
  refine name_goes hl h1 ok.kind fun h' v hn' hs' hcl => ?_
  have pt : Put c er v m cm s.heap h' := by
    refine ⟨fun b o e hb => .inl (hs'.extBut b o (fun z => hb (by rw [z]; exact .head _)) e), same_alive hs' (let ⟨o, _, _, e, _⟩ := hn'; ⟨o, e⟩), hcl, _, cm, hn', fun y k hk => ?_, ?_, fun y hy => ?_⟩
    · exact (h2 y k hk).sameBut hs' fun z => ndl (by rw [← z]; exact List.mem_map.mpr ⟨_, lookup_mem hk, rfl⟩)
    · unfold atName Env.kindOf; rw [hl]; simp
    · unfold atName
      split <;> first | rfl | (simp only [if_neg hy])
  have st' : StS (prog, w) b0 c E (upd er .gone φ) Ω h' := st.put h3 pt (fun _ _ => rfl) (fun b hb => .inl hb) st.nodup trivial fun ds a e => nomatch e
  rw [upd_same hg] at st'
  exact H h' _ pt.keep st' hs'
theorem own_Y' {b : Addr} (h : b ∈ c.own) : b ∈ c.Y Ω := own_Y h

theorem ex_tryStr {x er y : String} {xp p1 vp yp sp ep cp p2 hp p : Pos} {v : Expr} {e : IE} (S : Stat (prog, w) b0 mg mb consts) (hE : SEv prog w b0 r n) (ok : c.Ok n) (fn : c.Fn) (st : StS (prog, w) b0 c E φ Ω s.heap) (hn : LName c.env.scope x) (hv : CE c.env.scope v e) (hc : isComp e = false) (hve : GName c.env.scope "ValueError")
    (hl : c.env.scope.names.lookup (nm er) = some .local) (hdbg : (nm er == ("__debug__" : PySem.Str)) = false) (h0 : er ≠ ".0") (hy : LName c.env.scope y) (hst : GName c.env.scope "str") (hey : er ≠ y)
    (H : G (exI r φ (.tryStr x e y er)) (ExPost (prog, w) b0 c E Ω s Q) (XPostS b0 c Ω s Ex)) :
    wpAny (model prog w) c.A (exec (.Try [.Assign [.Name (nm x) xp] v p1] [.ExceptHandler (some (.Name (nm "ValueError") vp)) (some (nm er)) [.Assign [.Name (nm y) yp] (.Call (.Name (nm "str") sp) [.Name (nm er) ep] [] cp) p2] hp] [] [] p) c.env) Q Ex s := by
  dsimp only [exI] at H
  have hner : LName c.env.scope er := ⟨.inl hl, hdbg, h0⟩
  refine wpAny_Try_except (wpAny_execs_cons (wpAny_Assign_Name (hE c E φ Ω s _ _ _ _ ok st.st hv ?_) (hv.swN hc)))
  cases hr : r.ev φ e with
  | bad => rw [hr] at H; exact H.elim
  | ok u =>
    rw [hr] at H
    intro v' h₁ tk₁ k₁ r₁
    cases hf : fzV u with
    | bad => dsimp only [Res.bind] at H; rw [hf] at H; exact H.elim
    | exc m => unfold fzV at hf; split at hf <;> cases hf
    | ok d =>
      dsimp only [Res.bind] at H
      rw [hf] at H
      refine put_val ok st hn k₁ (fz_R hf r₁) fun h' tk k st' => ?_
      exact wpAny_execs_nil (wpAny_execs_nil ((show ExPost (prog, w) b0 c E Ω s Q (.next, upd x (.val d true) φ) from H) .next h' tk Ω trivial k .refl st'))
  | exc m =>
    rw [hr] at H
    dsimp only [Res.bind] at H
    have H : ExPost (prog, w) b0 c E Ω s Q (.next, upd y (.val (.str m.1) true) (upd er .gone φ)) := H
    intro xa h' tk fl
    refine lit_land (s := s) ok.frames fn st.st.ground (.inl fl) fun h₂ fl₂ => ?_
    have st₂ := st.kp (fl₂.kpG st.st.ground)
    refine wpAny_handleBy_builtin_as (X := "ValueError") (T := "ValueError") (b := true) F.isExc_ValueError F.notTuple_ValueError F.self_ValueError ?_
    refine ld_boot (s := { s with heap := h₂, toks := tk }) S ok st₂.st hve (S.free _ (by decide)) boot_ve (by decide) ⟨rfl, ?_, ?_⟩
    · obtain ⟨t, tk', ⟨o, vs, e1, e2, e3, _⟩, _⟩ := fly_data fl₂ st
      exact ⟨o, e1, e2⟩
    · rw [if_pos rfl]
      refine fly_land (s := s) fl₂ fun h₃ fl₃ => ?_
      have k₃ := fl₃.kpG st.st.ground
      have st₃ := st.kp k₃
      refine put_gone (s := { s with heap := h₃, toks := tk }) ok st₃ hner fun h₄ tk₄ k₄ st₄ ⟨m', cm', l1, l2, l3⟩ => ?_
      obtain ⟨t, tk', ha, ht, nx, nt⟩ := fly_data fl₃ st
      have ha₄ := exc_kp k₄ (fun z => nx (own_Y z)) ha
      have ht₄ := tup_kp k₄ (fun z => nt (own_Y z)) ht
      refine wpAny_execs_cons (wpAny_Assign_Name (Call_ (ld_boot (s := { s with heap := h₄, toks := tk₄ }) S ok st₄.st hst (S.free _ (by decide)) boot_str (by decide) (callWith_type1 ?_ rfl rfl))) rfl)
      refine args_cons (ld_at (s := { s with heap := h₄, toks := tk₄ }) ok hner l1 l2 l3 (args_nil ?_)) rfl
      refine PySem.P.str_of_exc_one F.excStr_ValueError (by have := ok.units; show c.A.units + 2 < _; omega) ha₄ ht₄ ?_
      refine put_val (s := { s with heap := h₄, toks := tk₄ }) ok st₄ hy .refl (.str _ _ fl.len) fun h₅ tk₅ k₅ st₅ => ?_
      refine wpAny_execs_nil ?_
      refine gone_goes (s := { s with heap := h₅, toks := tk₅ }) ok st₅ hl (by rw [upd_lookup, if_neg hey, upd_lookup, if_pos rfl]) fun h₆ tk₆ k₆ st₆ _ => ?_
      exact H .next h₆ tk₆ Ω trivial ((((k₃.weak fun _ z => nomatch z).trans (k₄.weak fun _ => own_Y)).trans k₅).trans (k₆.weak fun _ => own_Y)) .refl st₆
end
end Mine
end

section
set_option Elab.async false
namespace Mine
open PySem PySem.W PySem.Calls PyProof.Rows

theorem entry_unchain : entryFor table "proto.unchain" = some Builtin.«proto.unchain» := entryFor_of_tree (by kernel_rfl)
section
variable {prog : Program} {w : World} {A : Around} {E : Value → Shared → Prop} {s : Shared} {env : Env}

abbrev madeExc (t : Addr) (c2 : Value) (sup : Bool) : Obj := { cls := .type "ValueError", data := .fields #[.ref t, .none, c2, .none, .bool sup, .none] }
theorem unchain_none {e h : Addr} {oh : Obj} {vh : Array Value} {Q : Value → Shared → Prop} (hh : s.heap.get? h = some oh) (hd : oh.data = .fields vh) (h2 : vh[2]? = some .none) (hQ : Q .none s) :
    wpAny (model prog w) A (runValue (.builtin "proto.unchain" ⟨[.ref e, .ref h, .ref h, .bool false], []⟩)) Q E s := by
  refine wpAny_runValue (codeAny_builtin entry_unchain ?_)
  unfold Builtin.«proto.unchain»
  refine wpAny_bind (wpAny_field hh hd h2 ?_)
  rw [if_pos (show (Value.none == Value.none) = true from by decide)]
  exact wpAny_pure hQ
theorem exc_from {e t : Addr} {c2 : Value} {b : Bool} {msg : String} {Q : Value → Shared → Prop} (he : s.heap.get? e = some (madeExc t c2 b)) (hQ : Q (.ref e) s) : wpAny (model prog w) A (excFromValue (.ref e) msg) Q E s := by
  have hsub := F.excRaise_ValueError.isExc
  have hmeta := F.excRaise_ValueError.plainMeta
  obtain ⟨hp, g, d, tk, os⟩ := s
  unfold excFromValue
  repeat (first | exact hQ | refine wpAny_loadPart he ?_ | wp_step)
theorem is_type {e t : Addr} {c2 : Value} {b : Bool} {Q : Bool → Shared → Prop} (he : s.heap.get? e = some (madeExc t c2 b)) (hQ : Q false s) : wpAny (model prog w) A (isType (.ref e)) Q E s := by
  obtain ⟨hp, g, d, tk, os⟩ := s
  unfold isType
  repeat (first | exact hQ | refine wpAny_loadPart he ?_ | wp_step)
theorem raised_inst {e t : Addr} {c2 : Value} {b : Bool} {Q : Value → Shared → Prop} (he : s.heap.get? e = some (madeExc t c2 b)) (hQ : Q (.ref e) s) : wpAny (model prog w) A (raisedInstance (.ref e)) Q E s := by
  have hsub := F.excRaise_ValueError.isExc
  have hmeta := F.excRaise_ValueError.plainMeta
  obtain ⟨hp, g, d, tk, os⟩ := s
  unfold raisedInstance
  repeat (first | exact hQ | refine wpAny_loadPart he ?_ | wp_step)
theorem set_made {e t : Addr} {c2 c2' : Value} {b b' : Bool} {i : Nat} {x : Value} {Q : Unit → Shared → Prop} (he : s.heap.get? e = some (madeExc t c2 b)) (hi : i < 6) (hs : #[Value.ref t, .none, c2, .none, .bool b, .none].setIfInBounds i x = #[Value.ref t, .none, c2', .none, .bool b', .none])
    (hQ : ∀ h', Heap.SameBut e s.heap h' → h'.get? e = some (madeExc t c2' b') → Q () { s with heap := h' }) : wpAny (model prog w) A (setField (.ref e) i x) Q E s := by
  refine wpAny_setField he rfl hi (hQ _ (Heap.SameBut.update _ _ _) ?_)
  have := Heap.get?_update_self (Obj.mapFields (·.setIfInBounds i x)) he (Obj.isFreed_of_fields (Obj.data_mapFields rfl _))
  rw [this]
  show some ({ cls := .type "ValueError", data := .fields (#[Value.ref t, .none, c2, .none, .bool b, .none].setIfInBounds i x) } : Obj) = _
  rw [hs]
/-- raise X from None, in a handler -/
theorem raise_from {x c : Sem Value} {h : Addr} {Q : Flow → Shared → Prop} (hA : A.handled = some (.ref h)) (hc : ∀ s Q, Q .none s → wpAny (model prog w) A c Q E s)
    (hx : wpAny (model prog w) A x (fun v s₁ => ∃ e t oh vh, v = .ref e ∧ s₁.heap.get? e = some (madeExc t .none false) ∧ e ≠ h ∧ s₁.heap.get? h = some oh ∧ oh.data = .fields vh ∧ vh[2]? = some .none ∧
      ∀ h', Heap.SameBut e s₁.heap h' → h'.get? e = some (madeExc t (.ref h) true) → E (.ref e) { s₁ with heap := h' }) E s) :
    wpAny (model prog w) A (raiseStmt env (some x) (some c)) Q E s := by
  unfold raiseStmt
  refine wpAny_bind (wpAny_mono hx (fun v s₁ h₁ => ?_) fun _ _ x => x)
  obtain ⟨e, t, oh, vh, rfl, he, hne, hh, hd, h2, hE⟩ := h₁
  refine wpAny_bind (wpAny_holding (hc _ _ (wpAny_bind (wpAny_pure ?_))))
  dsimp only
  refine wpAny_bind (wpAny_holding (exc_from he ?_))
  rw [if_pos (show (Value.none == Value.none) = true from by decide)]
  refine wpAny_bind (wpAny_pure (wpAny_bind (set_made (c2' := .none) (b' := false) he (by decide) rfl fun h₁ k₁ e₁ => ?_)))
  refine wpAny_bind (set_made (s := { s₁ with heap := h₁ }) (c2' := .none) (b' := true) e₁ (by decide) rfl fun h₂ k₂ e₂ => ?_)
  refine wpAny_bind (is_type (s := { s₁ with heap := h₂ }) e₂ ?_)
  rw [if_neg (by decide)]
  refine wpAny_bind (raised_inst (s := { s₁ with heap := h₂ }) e₂ ?_)
  refine wpAny_bind ?_
  unfold setFlight
  refine wpAny_bind (wpAny_field (s := { s₁ with heap := h₂ }) (x := .none) e₂ rfl (i := 1) rfl ?_)
  rw [if_neg (show ¬ (Value.none != Value.none) = true from by decide)]
  refine wpAny_pure ?_
  unfold raiseNew
  refine wpAny_bind (wpAny_handled ?_)
  rw [hA]
  dsimp only
  have k₁₂ := k₁.trans k₂
  have hh₂ : h₂.get? h = some oh := (k₁₂.2 h (Ne.symm hne)).trans hh
  rw [if_pos (show (Value.ref h != Value.ref e) = true from by simp [Ne.symm hne])]
  refine wpAny_bind (wpAny_holding (unchain_none (s := { s₁ with heap := h₂ }) hh₂ hd h2 (wpAny_bind ?_)))
  have upd2 : wpAny (model prog w) A (setField (.ref e) 2 (.ref h)) (fun _ s' => wpAny (model prog w) A (throw (.ref e) : Sem Flow) Q E s') E { s₁ with heap := h₂ } :=
    set_made (s := { s₁ with heap := h₂ }) (c2' := .ref h) (b' := true) e₂ (by decide) rfl fun h₃ k₃ e₃ => wpAny_throw (hE h₃ (k₁₂.trans k₃) e₃)
  exact upd2
end
end Mine
end

section
set_option Elab.async false
namespace Mine
open PySem PySem.W PySem.Calls PyProof.Rows

section
variable {prog : Program} {w : World} {b0 : Heap} {c : Cx} {s : Shared} {Ex : Value → Shared → Prop} {A : Around}

theorem HeldX.kpG {h₁ h' : Heap} {x : Addr} {m : Msg} (f : HeldX c.stk h₁ x m h') (g : Ground b0 c h₁) : Kp c.fs [] h₁ h' := fun b o e _ => by
  obtain ⟨t, tk, L, _, fl, _, _⟩ := f.fly
  by_cases hb : b ∈ c.stk.filterMap (·.frame)
  · obtain ⟨_, o', e', hd⟩ := g.ff.mem hb
    obtain ⟨o'', e'', hc⟩ := g.fc b hb
    rw [e] at e' e''; cases e'; cases e''
    exact .inr ⟨hb, hc, hd, f.up b o e hd⟩
  · exact .inl (fl.1 b o (hideAll_get _ e hb))
/-- the name of the handler has gone meanwhile -/
theorem HeldX.relocal {h₁ h' h'' : Heap} {x : Addr} {m : Msg} {o'' : Obj} (hx : HeldX c.stk h₁ x m h') (fn : c.Fn) (g : Ground b0 c h₁) (hs : Heap.SameBut c.env.locals h' h'') (e'' : h''.get? c.env.locals = some o'') (hc : o''.cls = .type "frame") (hd : ∀ vs, o''.data ≠ .fields vs) (hfr : o''.isFreed = false) :
    ∃ h₂, Heap.SameBut c.env.locals h₁ h₂ ∧ Ground b0 c h₂ ∧ HeldX c.stk h₂ x m h'' := by
  obtain ⟨outer, hst⟩ := fn.head
  have hL : c.env.locals ∈ c.stk.filterMap (·.frame) := by rw [hst]; exact List.mem_filterMap.mpr ⟨c.env, .head _, fn.frame⟩
  obtain ⟨hoff, o₁, e₁, _⟩ := g.ff.mem hL
  have e₂ : (h₁.update c.env.locals fun _ => o'').get? c.env.locals = some o'' := Heap.get?_update_self _ e₁ hfr
  have hsb : Heap.SameBut c.env.locals h₁ (h₁.update c.env.locals fun _ => o'') := Heap.SameBut.update _ _ _
  generalize (h₁.update c.env.locals fun _ => o'') = h₂ at e₂ hsb
  have hstay : ∀ b o, b ≠ c.env.locals → (h₁.get? b = some o ↔ h₂.get? b = some o) := fun b o hb => by rw [hsb.2 b hb]
  have hbase : ∀ b o, (hideAll h₂ (c.stk.filterMap (·.frame))).get? b = some o → (hideAll h₁ (c.stk.filterMap (·.frame))).get? b = some o := fun b o e => by
    have hb : b ∉ c.stk.filterMap (·.frame) := fun z => by rw [hideAll_none _ z] at e; cases e
    exact hideAll_get _ ((hstay b o fun z => hb (z ▸ hL)).mpr (of_hideAll _ e)) hb
  have hne : ∀ b, (hideAll h₁ (c.stk.filterMap (·.frame))).get? b = none → (hideAll h₂ (c.stk.filterMap (·.frame))).get? b = none := fun b hb => by
    cases q : (hideAll h₂ (c.stk.filterMap (·.frame))).get? b with
    | none => rfl
    | some o => rw [hbase b o q] at hb; cases hb
  have hframes : ∀ {h : Heap}, h.get? c.env.locals = some o'' → ∀ {k : Heap}, (∀ b o, b ≠ c.env.locals → k.get? b = some o → h.get? b = some o) → ∀ {base base' : Heap}, (∀ b, base.get? b = none → base'.get? b = none) → ∀ {l : List Env}, k.FunFrames base l → h.FunFrames base' l := by
    intro h he k hk base base' hb l
    induction l with
    | nil => intro _; trivial
    | cons e l ih =>
      intro ⟨q1, ⟨L, o, q2, q3, q4, q5⟩, q6⟩
      refine ⟨q1, ?_, ih q6⟩
      by_cases z : L = c.env.locals
      · exact ⟨L, o'', q2, hb _ q3, by rw [z]; exact he, hd⟩
      · exact ⟨L, o, q2, hb _ q3, hk L o z q4, q5⟩
  refine ⟨h₂, hsb, ⟨fun b o e => ?_, hframes e₂ (fun b o hb e => (hstay b o hb).mp e) (fun _ z => z) g.ff, fun b hb => ?_⟩, ?_⟩
  · exact (hstay b o fun z => by rw [z, hoff] at e; cases e).mp (g.stay b o e)
  · by_cases z : b = c.env.locals
    · rw [z]; exact ⟨o'', e₂, hc⟩
    · obtain ⟨o, e, hc'⟩ := g.fc b hb
      exact ⟨o, (hstay b o z).mp e, hc'⟩
  · obtain ⟨t, tk, L, q1, ⟨f1, f2, f3, f4⟩, q3, q4⟩ := hx.fly
    obtain ⟨o', e'⟩ : ∃ o', h'.get? c.env.locals = some o' ∧ ∀ vs, o'.data ≠ .fields vs := by obtain ⟨_, o', e', hd'⟩ := f3.mem hL; exact ⟨o', e', hd'⟩
    have keep : ∀ b o, b ≠ c.env.locals → h'.get? b = some o → h''.get? b = some o := fun b o hb e => hs.extBut b o hb e
    have notL : ∀ b o vs, h'.get? b = some o → o.data = .fields vs → b ≠ c.env.locals := fun b o vs e hd' z => by rw [z, e'.1] at e; cases e; exact e'.2 _ hd'
    obtain ⟨oe, vs, T, oT, ts, t1, t2, t3, t4, t5, t6, t7, t8, t9⟩ := f4
    have tne : t ≠ c.env.locals := fun z => by
      obtain ⟨ol, el, hcl⟩ := fc_kp g.fc (hx.kpG g) (by simp) c.env.locals hL
      obtain ⟨ot, nt, et, ct, dt⟩ := q3
      rw [z, el] at et; cases et
      exact noFrame ct (by decide) hcl
    refine ⟨⟨t, tk, L, q1, ⟨fun b o e => ?_, hne _ f2, hframes e'' keep (fun b z => hne b z) f3, oe, vs, T, oT, ts, keep _ _ (notL _ _ _ t1 t3) t1, t2, t3, t4, hne _ t5, t6, keep _ _ (notL _ _ _ t7 t8) t7, t8, t9⟩, ?_, hne _ q4⟩, fun b o e hnf => ?_, hx.len, fun hm => ?_⟩
    · have hb : b ∉ c.stk.filterMap (·.frame) := fun z => by rw [hideAll_none _ z] at e; cases e
      exact keep b o (fun z => hb (z ▸ hL)) (f1 b o (hbase b o e))
    · obtain ⟨ot, nt, et, ct, dt⟩ := q3
      exact ⟨ot, nt, keep _ _ tne et, ct, dt⟩
    · by_cases z : b = c.env.locals
      · subst z; rw [e₂] at e; cases e; exact ⟨o''.slots, e''⟩
      · obtain ⟨sl, e3⟩ := hx.up b o ((hstay b o z).mpr e) hnf
        exact ⟨sl, keep _ _ z e3⟩
    · obtain ⟨o, vs', q5, q6, q7⟩ := hx.ctx hm
      exact ⟨o, vs', keep _ _ (notL _ _ _ q5 q6) q5, q6, q7⟩
end
end Mine
namespace Mine
open PySem PySem.W PySem.Calls PyProof.Rows
section
variable {prog : Program} {w : World} {b0 : Heap} {c : Cx} {s : Shared} {Ex : Value → Shared → Prop} {A : Around}
theorem pass_on {α : Type} {what : String} {h₁ h' : Heap} {x : Addr} {m : Msg} {tk : Nat} {QF : α → Shared → Prop} (fn : c.Fn) (hx : HeldX c.stk h₁ x m h') (H : Ex (.ref x) { s with heap := h', toks := tk }) :
    wpAny (model prog w) A (PySem.passOn what (.ref x) c.env : Sem α) QF Ex { s with heap := h', toks := tk } := by
  obtain ⟨outer, hst⟩ := fn.head
  obtain ⟨t, tk', L, q1, ⟨f1, f2, f3, oe, vs, T, oT, ts, t1, t2, t3, t4, t5, t6, t7, t8, t9⟩, q3, q4⟩ := hx.fly
  have hLe : L = c.env.locals := Option.some.inj (q1.symm.trans (by rw [hst]; exact fn.frame))
  unfold PySem.passOn
  refine wpAny_bind (wpAny_field (s := { s with heap := h', toks := tk }) t1 t3 t4 ?_)
  rw [if_neg (show ¬ (Value.ref T == Value.none) = true from by simp)]
  unfold setFlight
  refine wpAny_bind (wpAny_bind (wpAny_field (s := { s with heap := h', toks := tk }) t1 t3 t4 ?_))
  rw [if_pos (show (Value.ref T != Value.none) = true from by simp), fn.frame]
  show wpAny _ A (setField (.ref T) 3 (rawInt c.env.locals)) _ _ _
  refine wpAny_setField (s := { s with heap := h', toks := tk }) t7 t8 (Array.getElem?_eq_some_iff.mp t9).1 ?_
  rw [hLe] at t9
  rw [Heap.update_setField_same h' T oT ts 3 (rawInt c.env.locals) t7 t8 t9]
  exact wpAny_throw H
end
end Mine
end

section
set_option Elab.async false
namespace Mine
open PySem PySem.W PySem.Calls PyProof.Rows

end Mine
end

section
set_option Elab.async false
set_option maxRecDepth 100000
namespace Mine
open PySem PySem.W PySem.Calls PyProof.Rows PySem.Builtin PySem.Builtin.Str

theorem slot_ve_format : PySem.Slot "ValueError" "__format__" "object.__format__" :=
  PySem.Slot.of (owner := "object") (n := "__format__") (by rw [typeLookup_type, builtinLookup_eq_fast]; kernel_rfl) (by decide +kernel) (by decide +kernel) (by decide +kernel)
    (by first | exact .inl (by decide +kernel) | exact .inr (by decide +kernel)) (by rw [isSubtype_type]; kernel_rfl)
section
variable {prog : Program} {w : World} {A : Around} {E : Value → Shared → Prop} {s : Shared}
theorem format_exc {e t0 : Addr} {m : PySem.Str} {tk : Tok} {Q : Value → Shared → Prop} (hu : A.units + 4 < cLine) (x : s.heap.ExcAt e "ValueError" (.ref t0)) (ht : s.heap.TupAt t0 [.str m tk]) (h : Q (.str m tk) { s with toks := s.toks + 1 }) :
    wpAny (model prog w) A (formatField (.ref e) PySem.Str.empty) Q E s := by
  show wpAny _ _ (holding [.ref e] (pyFormat (.ref e) PySem.Str.empty)) Q E s
  refine wpAny_holding ?_
  unfold pyFormat
  refine wpAny_bind (wpAny_mkStr ?_)
  have x' : ({ s with toks := s.toks + 1 } : Shared).heap.ExcAt e "ValueError" (.ref t0) := x
  refine wpAny_bind (m := callSpecial? (.ref e) (Str.ofString "__format__") [.str PySem.Str.empty s.toks]) (wpAny_callSpecial?_slot (name := Str.ofString "__format__") x'.typeIs slot_ve_format ?_)
  refine wpAny_call_entry slot_ve_format x'.typeIs F.entry_object_format ?_ (F.args_object_format_2 _ _)
  show wpAny _ _ (do let _shown ← typeNameOf (.str PySem.Str.empty s.toks); (do ret (← pyStrObj (.ref e)))) _ _ _
  refine wpAny_bind (wpAny_typeNameOf (T := "str") (typeIs_str _ _ _) (by decide) fun _ => ?_)
  refine wpAny_bind (pyStrObj_exc_one F.excStr_ValueError (by show A.units + 1 < cLine; omega) x' ht (wpAny_pure ⟨_, rfl, ?_⟩))
  exact wpAny_bind (wpAny_isInstance (T := "str") (b := true) rfl isSubtype_str_str (wpAny_pure h))
end
end Mine
end

section
set_option Elab.async false
namespace Mine
open PySem PySem.W PySem.Calls PyProof.Rows

section
variable {prog : Program} {w : World} {b0 : Heap} {mg mb : PySem.Str → Option Value} {consts : String → Option V} {r : Rec} {n : Nat} {c : Cx} {E : List Addr} {φ : Frm} {Ω : List (String × Addr)} {s : Shared} {Q : Flow → Shared → Prop} {Ex : Value → Shared → Prop} {A : Around}

theorem ExPost.kp0 {h₁ : Heap} {tk₁ : Nat} {p : Fl × Frm} (H : ExPost (prog, w) b0 c E Ω s Q p) (k : Kp c.fs [] s.heap h₁) : ExPost (prog, w) b0 c E Ω { s with heap := h₁, toks := tk₁ } Q p :=
  H.step (k.weak fun _ z => nomatch z) .refl
theorem one_stmt {a : Stmt} {Q' : Flow → Shared → Prop} (h : wpAny (model prog w) A (exec a c.env) Q' Ex s) : wpAny (model prog w) A (execs [a] c.env) Q' Ex s :=
  wpAny_execs_cons (wpAny_mono h (fun f s' q => by cases f <;> first | exact wpAny_execs_nil q | exact q) fun _ _ x => x)
theorem try_body {t1 t2 v1 v2 v3 : Expr} {x : String} {xp1 ap1 c1 p1 xp2 ap2 c2 p2 np3 c3 p3 q2 q1 : Pos} {ti1 ti2 : TE} {e1 e2 m : IE} (S : Stat (prog, w) b0 mg mb consts) (hE : SEv prog w b0 r n) (hT : STs prog w b0 r n) (ok : c.Ok n) (st : StS (prog, w) b0 c E φ Ω s.heap)
    (h1 : CT c.env.scope t1 ti1) (hx : LName c.env.scope x) (hl1 : (ap1.endLine == c1.line) = true) (hv1 : CE c.env.scope v1 e1) (h2 : CT c.env.scope t2 ti2) (hl2 : (ap2.endLine == c2.line) = true) (hv2 : CE c.env.scope v2 e2) (hve : GName c.env.scope "ValueError") (hv3 : CE c.env.scope v3 m)
    (H : G (tryLineI r φ ti1 x e1 ti2 e2 m) (ExPost (prog, w) b0 c E Ω s Q) (XPost0 c s Ex)) :
    wpAny (model prog w) c.A (exec (.If t1 [.Expr (.Call (.Attribute (.Name (nm x) xp1) (nm "append") ap1) [v1] [] c1) p1] [.If t2 [.Expr (.Call (.Attribute (.Name (nm x) xp2) (nm "append") ap2) [v2] [] c2) p2] [.Raise (some (.Call (.Name (nm "ValueError") np3) [v3] [] c3)) Option.none p3] q2] q1) c.env) Q Ex s := by
  unfold tryLineI at H
  refine wpAny_If (hT c E φ Ω s _ _ _ _ ok st.st h1 (H.bind.mono (fun b _ Hb h₁ tk₁ k₁ => ?_) fun _ _ X => X.now))
  have st₁ := st.kp k₁
  cases b with
  | true =>
    refine one_stmt (ex_append0 (s := { s with heap := h₁, toks := tk₁ }) hE ok st₁ hx hl1 hv1 (G.mono (show G (appI r φ x e1) _ _ from Hb) (fun _ _ Hq => Hq.kp0 k₁) fun _ _ X => X.step k₁))
  | false =>
    have Hb : G ((r.ts φ ti2).bind fun b => if b then appI r φ x e2 else raiseI r φ m) (ExPost (prog, w) b0 c E Ω s Q) (XPost0 c s Ex) := Hb
    refine one_stmt (wpAny_If (hT c E φ Ω { s with heap := h₁, toks := tk₁ } _ _ _ _ ok st₁.st h2 (Hb.bind.mono (fun b _ Hb h₂ tk₂ k₂ => ?_) fun _ _ X => (X.step k₁).now)))
    have k₁₂ := k₁.trans k₂
    have st₂ := st.kp k₁₂
    cases b with
    | true => exact one_stmt (ex_append0 (s := { s with heap := h₂, toks := tk₂ }) hE ok st₂ hx hl2 hv2 (G.mono (show G (appI r φ x e2) _ _ from Hb) (fun _ _ Hq => Hq.kp0 k₁₂) fun _ _ X => X.step k₁₂))
    | false => exact one_stmt (ex_raise0 (s := { s with heap := h₂, toks := tk₂ }) S hE ok st₂ hve hv3 (G.mono (show G (raiseI r φ m) _ _ from Hb) (fun _ _ Hq => Hq.kp0 k₁₂) fun _ _ X => X.step k₁₂))

noncomputable def lineText (i : Int) (m : PySem.Str) : PySem.Str := PySem.Str.ofString "line " ++ PySem.Str.ofString (toString i) ++ PySem.Str.ofString ": " ++ m
theorem empty_app (x : PySem.Str) : PySem.Str.empty ++ x = x := by
  obtain ⟨a⟩ := x
  show (⟨#[] ++ a⟩ : PySem.Str) = ⟨a⟩
  rw [Array.empty_append]
/-- the text of the new exception -/
theorem line_text {er nu : String} {l1p nup nfp l2p erp efp jp : Pos} {l1k l2k : Nat} {i : Int} {f : Bool} {mt : PySem.Str} {tkm : Tok} {xa t : Addr} {m' cm' : PySem.Str → Option Value} {QV : Value → Shared → Prop} (ok : c.Ok n) (st : StS (prog, w) b0 c E φ Ω s.heap) (hu : A.units = c.A.units) (hnu : LName c.env.scope nu) (hner : LName c.env.scope er)
    (hi : φ.lookup nu = some (.val (.int i) f)) (hb : i.natAbs < 2 ^ 60) (l1 : s.heap.Ns c.env.locals m') (l2 : ∀ n k, c.env.cells.lookup n = some k → s.heap.IsCell k (cm' n)) (l3 : atName c m' cm' (nm er) = some (.ref xa)) (ha : s.heap.ExcAt xa "ValueError" (.ref t)) (ht : s.heap.TupAt t [.str mt tkm]) (hm : mt.length ≤ 100000)
    (H : ∀ t tk, (lineText i mt).length ≤ sizeLine → QV (.str (lineText i mt) t) { s with toks := tk }) :
    wpAny (model prog w) A (eval (.JoinedStr [.Constant (.str (nm "line ")) l1k l1p, .FormattedValue (.Name (nm nu) nup) (-1) Option.none nfp, .Constant (.str (nm ": ")) l2k l2p, .FormattedValue (.Name (nm er) erp) (-1) Option.none efp] jp) c.env) QV Ex s := by
  obtain ⟨m, cm, h1, h2, h3⟩ := st.st.loc
  obtain ⟨v, hv, rv⟩ := h3 nu _ hi hnu
  obtain ⟨tv, rfl⟩ := rv.inv_int
  have hl2 : i.natAbs.log2 < 60 := by
    by_cases h0 : i.natAbs = 0
    · rw [h0]; decide
    · exact (Nat.log2_lt h0).mpr hb
  have hlen : (PySem.Str.ofString (toString i)).length ≤ 100 := by
    have e := int_text_length_le (k := 60) (by decide) hl2
    rw [PySem.ofString_length]; omega
  have e1 : (PySem.Str.ofString "line ").length = 5 := rfl
  have e2 : (PySem.Str.ofString ": ").length = 2 := rfl
  have s1 : sizeLine = sizeLine := rfl
  have hsz : 200000 ≤ sizeLine := by rw [sizeLine_eq]; decide
  refine JoinedStr_many (joinParts_cons (wpAny_Constant_str ⟨?_, joinParts_cons (wpAny_FormattedValue_plain (ld_at (s := { s with toks := s.toks + 1 }) ok hnu h1 h2 hv (wpAny_formatField_int (by omega) ⟨?_, ?_⟩)))⟩))
  · rw [empty_app, e1]; omega
  · rw [empty_app, PySem.Str.length_append]; show 5 + (PySem.Str.ofString (toString i)).length ≤ _; omega
  · refine joinParts_cons (wpAny_Constant_str ⟨?_, joinParts_cons (wpAny_FormattedValue_plain (ld_at ok hner l1 l2 l3 (format_exc (by have := ok.units; rw [hu]; omega) ha ht ⟨?_, joinParts_nil ?_ ?_⟩)))⟩)
    · rw [empty_app, PySem.Str.length_append, PySem.Str.length_append]; show 5 + (PySem.Str.ofString (toString i)).length + 2 ≤ _; omega
    · rw [empty_app, PySem.Str.length_append, PySem.Str.length_append, PySem.Str.length_append]; show 5 + (PySem.Str.ofString (toString i)).length + 2 + mt.length ≤ _; omega
    · rw [empty_app]
      refine H _ _ ?_
      unfold lineText
      rw [PySem.Str.length_append, PySem.Str.length_append, PySem.Str.length_append]; show 5 + (PySem.Str.ofString (toString i)).length + 2 + mt.length ≤ _; omega
    · rw [empty_app, PySem.Str.length_append, PySem.Str.length_append, PySem.Str.length_append]; show 5 + (PySem.Str.ofString (toString i)).length + 2 + mt.length ≤ _; omega
end
end Mine
end

section
set_option Elab.async false
namespace Mine
open PySem PySem.W PySem.Calls PyProof.Rows

section
variable {prog : Program} {w : World} {b0 : Heap} {mg mb : PySem.Str → Option Value} {consts : String → Option V} {r : Rec} {n : Nat} {c : Cx} {E : List Addr} {φ : Frm} {Ω : List (String × Addr)} {s : Shared} {Q : Flow → Shared → Prop} {Ex : Value → Shared → Prop} {A : Around}

theorem ex_tryLine {t1 t2 v1 v2 v3 : Expr} {x er nu : String} {xp1 ap1 c1 p1 xp2 ap2 c2 p2 np3 c3 p3 q2 q1 vp np4 l1p nup nfp l2p erp efp jp c4 nkp p4 hp' p : Pos} {l1k l2k nk : Nat} {ti1 ti2 : TE} {e1 e2 m : IE}
    (S : Stat (prog, w) b0 mg mb consts) (hE : SEv prog w b0 r n) (hT : STs prog w b0 r n) (ok : c.Ok n) (fn : c.Fn) (hp : Passes prog w c Ex) (st : StS (prog, w) b0 c E φ Ω s.heap)
    (h1 : CT c.env.scope t1 ti1) (hx : LName c.env.scope x) (hl1 : (ap1.endLine == c1.line) = true) (hv1 : CE c.env.scope v1 e1) (h2 : CT c.env.scope t2 ti2) (hl2 : (ap2.endLine == c2.line) = true) (hv2 : CE c.env.scope v2 e2) (hve : GName c.env.scope "ValueError") (hv3 : CE c.env.scope v3 m)
    (hl : c.env.scope.names.lookup (nm er) = some .local) (hdbg : (nm er == ("__debug__" : PySem.Str)) = false) (h0 : er ≠ ".0") (hnu : LName c.env.scope nu) (hern : er ≠ nu)
    (H : G (exI r φ (.tryLine ti1 x e1 ti2 e2 m nu)) (ExPost (prog, w) b0 c E Ω s Q) (XPostS b0 c Ω s Ex)) :
    wpAny (model prog w) c.A (exec (.Try [.If t1 [.Expr (.Call (.Attribute (.Name (nm x) xp1) (nm "append") ap1) [v1] [] c1) p1] [.If t2 [.Expr (.Call (.Attribute (.Name (nm x) xp2) (nm "append") ap2) [v2] [] c2) p2] [.Raise (some (.Call (.Name (nm "ValueError") np3) [v3] [] c3)) Option.none p3] q2] q1]
        [.ExceptHandler (some (.Name (nm "ValueError") vp)) (some (nm er)) [.Raise (some (.Call (.Name (nm "ValueError") np4) [.JoinedStr [.Constant (.str (nm "line ")) l1k l1p, .FormattedValue (.Name (nm nu) nup) (-1) Option.none nfp, .Constant (.str (nm ": ")) l2k l2p, .FormattedValue (.Name (nm er) erp) (-1) Option.none efp] jp] [] c4)) (some (.Constant .none nk nkp)) p4] hp'] [] [] p) c.env) Q Ex s := by
  have hner : LName c.env.scope er := ⟨.inl hl, hdbg, h0⟩
  have hL : c.env.locals ∈ c.fs := by
    obtain ⟨outer, hs⟩ := fn.head
    unfold Cx.fs; rw [hs]; exact List.mem_filterMap.mpr ⟨c.env, .head _, fn.frame⟩
  refine wpAny_Try_except (one_stmt (try_body S hE hT ok st h1 hx hl1 hv1 h2 hl2 hv2 hve hv3 ?_))
  dsimp only [exI] at H
  cases hr : tryLineI r φ ti1 x e1 ti2 e2 m with
  | bad => rw [hr] at H; exact H.elim
  | ok q =>
    rw [hr] at H
    intro flow h' tk Ω' hfl k g st'
    have Hq := (show ExPost (prog, w) b0 c E Ω s Q q from H) flow h' tk Ω' hfl k g st'
    cases flow <;> first | exact wpAny_execs_nil Hq | exact Hq
  | exc mm =>
    rw [hr] at H
    obtain ⟨i, f, hi, hb, hml, hm2, Hx⟩ : ∃ i f, φ.lookup nu = some (.val (.int i) f) ∧ i.natAbs < 2 ^ 60 ∧ mm.1.length ≤ 100000 ∧ mm.2 = true ∧ XPostS b0 c Ω s Ex (lineText i mm.1, false) := by
      cases hlk : φ.lookup nu with
      | none => rw [hlk] at H; exact (show False from H).elim
      | some sl =>
        rw [hlk] at H
        cases sl with
        | acc => exact (show False from H).elim
        | tab => exact (show False from H).elim
        | gone => exact (show False from H).elim
        | val d f =>
          cases d <;> first | exact (show False from H).elim | skip
          rename_i i
          rcases G.ite (show G (if i.natAbs < 2 ^ 60 ∧ mm.1.length ≤ 100000 ∧ mm.2 = true then Res.exc (lineText i mm.1, false) else .bad) (ExPost (prog, w) b0 c E Ω s Q) (XPostS b0 c Ω s Ex) from H) with ⟨q, Hq⟩ | ⟨_, Hq⟩
          · exact ⟨i, f, rfl, q.1, q.2.1, q.2.2, Hq⟩
          · exact Hq.elim
    intro h₁ xa h' tk k₁ lit
    have st₁ := st.kp k₁
    refine lit_land (s := s) ok.frames fn st₁.st.ground lit fun h₂ fl₂ => ?_
    have st₂ := st₁.kp (fl₂.kpG st₁.st.ground)
    refine wpAny_handleBy_builtin_as (X := "ValueError") (T := "ValueError") (b := true) F.isExc_ValueError F.notTuple_ValueError F.self_ValueError ?_
    refine ld_boot (s := { s with heap := h₂, toks := tk }) S ok st₂.st hve (S.free _ (by decide)) boot_ve (by decide) ⟨rfl, ?_, ?_⟩
    · obtain ⟨t, tk', ⟨o, vs, e1, e2, e3, _⟩, _⟩ := fly_data fl₂ st₁
      exact ⟨o, e1, e2⟩
    · rw [if_pos rfl]
      refine fly_land (s := s) fl₂ fun h₃ fl₃ => ?_
      have k₃ := fl₃.kpG st₁.st.ground
      have st₃ := st₁.kp k₃
      refine put_gone (s := { s with heap := h₃, toks := tk }) ok st₃ hner fun h₄ tk₄ k₄ st₄ ⟨m', cm', l1, l2, l3⟩ => ?_
      obtain ⟨t, tk', ha, ht, nx, nt⟩ := fly_data fl₃ st₁
      have ha₄ := exc_kp k₄ (fun z => nx (own_Y z)) ha
      have ht₄ := tup_kp k₄ (fun z => nt (own_Y z)) ht
      obtain ⟨oc, vc, ec, dc, c2'⟩ := fl₃.ctx hm2
      have ec₄ : h₄.get? xa = some oc := by
        obtain ⟨o, vs, g1, g2, g3⟩ := ha
        rw [ec] at g1; cases g1
        exact k₄.same ec (fun z => nx (own_Y z)) (noFrame g2 (by decide))
      refine one_stmt ?_
      rw [arm_exec_Raise]
      refine wpAny_bind (wpAny_standAt (raise_from (h := xa) rfl (fun s Q hQ => wpAny_bind (wpAny_Constant_none (wpAny_bind (wpAny_standAt (wpAny_pure hQ))))) ?_))
      refine wpAny_bind (wpAny_Call_ofName (ld_boot (s := { s with heap := h₄, toks := tk₄ }) S ok st₄.st hve (S.free _ (by decide)) boot_ve (by decide) (callWith_excType rfl (evalArgs_plain ?_))))
      refine spliced_cons (line_text (jp := jp) (s := { s with heap := h₄, toks := tk₄ }) ok st₄ rfl hnu hner (by rw [upd_lookup, if_neg (Ne.symm hern)]; exact hi) hb l1 l2 l3 ha₄ ht₄ hml fun tt tk₅ hlen => spliced_nil ?_)
      refine wpAny_call_exc F.excCall_ValueError (fun h₅ e hm => ?_) (by rw [sizeLine_eq]; exact Nat.le_of_ble_eq_true rfl)
      obtain ⟨ta, g1, g2, g3⟩ := hm.there
      have hne : e ≠ xa := fun z => by have := hm.new; rw [z] at this; rw [show h₄.get? xa = none from this] at ec₄; cases ec₄
      refine wpAny_bind (wpAny_standAt (wpAny_pure ⟨e, ta, oc, vc, rfl, g1, hne, hm.keeps _ _ ec₄, dc, c2', fun h₆ hs₆ e₆ => ?_⟩))
      have hta : ta ≠ e := fun z => by
        rw [z, g1] at g3
        have q := congrArg Obj.cls (Option.some.inj g3)
        injection q with q
        exact absurd q (by decide)
      have raw : Raw h₄ e (lineText i mm.1, false) h₆ := by
        refine ⟨fun b o eb => ?_, hm.new, ⟨_, _, ta, tt, e₆, rfl, rfl, rfl, rfl, (fun z => nomatch z), g2, ⟨_, _, hs₆.extBut _ _ hta g3, rfl, rfl⟩⟩, hlen⟩
        refine hs₆.extBut _ _ (fun z => ?_) (hm.keeps b o eb)
        have := hm.new
        rw [z] at eb; rw [show h₄.get? e = none from this] at eb; cases eb
      refine lit_note (s := s) (c := c) (b0 := b0) ok.frames fn st₄.st.ground (.inr (.inl raw)) fun h₇ hx₇ => ?_
      have st₇ := st₄.kp (hx₇.kpG st₄.st.ground)
      refine gone_goes (s := { s with heap := h₇, toks := tk₅ }) ok st₇ hl (by rw [upd_lookup, if_pos rfl]) fun h₈ tk₈ k₈ st₈ hsb => ?_
      obtain ⟨o'', e'', hc''⟩ := st₈.st.fc c.env.locals hL
      obtain ⟨_, od, ed, hd''⟩ := st₈.st.ff.mem hL
      rw [e''] at ed; cases ed
      obtain ⟨h₂', hsb', g', hx'⟩ := hx₇.relocal fn st₄.st.ground hsb e'' hc'' hd'' (Heap.get?_some_iff.mp e'').2
      refine pass_on (s := s) fn hx' ?_
      refine hp.mark (some (.ref xa)) _ _ (Hx h₂' e h₈ tk₈ ?_ g' (.inr (.inr hx')))
      exact (((k₁.weak fun _ z => nomatch z).trans (k₃.weak fun _ z => nomatch z)).trans (k₄.weak fun _ => own_Y)).trans (Kp.of_same hsb' (own_Y (.head _)))
end
end Mine
end

section
set_option Elab.async false
namespace Mine
open PySem PySem.W PySem.Calls PyProof.Rows

theorem mkIf {sc : Scope} {e : Expr} {k : Nat} {ei : IE} {x : String} {it : It} {cond : Option TE} (h : toE (k + 1) e (.comp ei x it cond) = e) (o : condB (okT k sc (kid 3 e)) cond = true) : CIf sc (cond.toList.map (toT k (kid 3 e))) cond := by
  cases cond with
  | none => exact .inl ⟨rfl, rfl⟩
  | some t => exact .inr ⟨_, _, rfl, rfl, mkT (congrArg (kid 3) h) o⟩
section
variable {prog : Program} {w : World} {b0 : Heap} {mg mb : PySem.Str → Option Value} {consts : String → Option V} {r : Rec} {n : Nat}
/-- all expressions -/
theorem ev_sound (S : Stat (prog, w) b0 mg mb consts) (hE : SEv prog w b0 r n) (hT : STs prog w b0 r n) (hF : SFn prog w b0 mg r n) (hH : SHas b0 mg r) {r' : Rec} (hr : r'.ev = evI consts r) : SEv prog w b0 r' (n + 1) := by
  intro c E φ Ω s e i Q Ex ok' st he H
  rw [hr] at H
  have ok := ok'.le (Nat.le_succ n)
  obtain ⟨k, h, o⟩ := he.one
  have key : ∀ e', e' = e → wpAny (model prog w) c.A (eval e' c.env) Q Ex s → wpAny (model prog w) c.A (eval e c.env) Q Ex s := fun _ q z => q ▸ z
  cases i with
  | const v =>
    refine key _ h ?_
    cases v with
    | none => exact ev_none H
    | bool b => exact ev_bool H
    | int i => exact ev_int H
    | str x => exact ev_str (shortB_ok o) H
    | tuple => cases o
    | list => cases o
    | dict => cases o
  | var x => exact key _ h (ev_var ok st (lnB_ok o) H)
  | glob x => exact key _ h (ev_glob S ok st (gnB_ok o) H)
  | bin op a b => exact key _ h (ev_bin hE ok st (opOf_ok op) (mkE (congrArg (kid 0) h) (and_ok o).1) (mkE (congrArg (kid 1) h) (and_ok o).2) H)
  | neg a => exact key _ h (ev_neg hE ok st (mkE (congrArg (kid 0) h) o) H)
  | orv a b => exact key _ h (ev_orv hE ok st (mkE (congrArg (kid 0) h) (and_ok o).1) (mkE (congrArg (kid 1) h) (and_ok o).2) H)
  | ife t a b =>
    obtain ⟨o1, o2⟩ := and_ok o
    exact key _ h (ev_ife hE hT ok st (mkT (congrArg (kid 0) h) o1) (mkE (congrArg (kid 1) h) (and_ok o2).1) (mkE (congrArg (kid 2) h) (and_ok o2).2) H)
  | call f is => exact key _ h (ev_call S hE hF hH ok st (gnB_ok (and_ok o).1) (mkEs (congrArg args h) (and_ok o).2) H)
  | len a => exact key _ h (ev_len S hE ok st (gnB_ok (and_ok o).1) (mkE (congrArg (kid 1) h) (and_ok o).2) H)
  | strOf a => exact key _ h (ev_strOf S hE ok st (gnB_ok (and_ok o).1) (mkE (congrArg (kid 1) h) (and_ok o).2) H)
  | intOf a => exact key _ h (ev_intOf S hE ok st (gnB_ok (and_ok o).1) (mkE (congrArg (kid 1) h) (and_ok o).2) H)
  | listOf a => exact key _ h (ev_listOf S hE ok st (gnB_ok (and_ok o).1) (mkE (congrArg (kid 1) h) (and_ok o).2) H)
  | isinst a T =>
    obtain ⟨o1, o2⟩ := and_ok o
    exact key _ h (ev_isinst S hE ok st (gnB_ok o1) (gnB_ok (and_ok o2).1) (mkE (congrArg (kid 1) h) (and_ok o2).2) H)
  | meth m a is =>
    obtain ⟨o1, o2⟩ := and_ok o
    obtain ⟨o2, o3⟩ := and_ok o2
    obtain ⟨o3, o4⟩ := and_ok o3
    have e0 : toE k (kid 0 (kid 0 e)) a = kid 0 (kid 0 e) := congrArg (fun z => kid 0 (kid 0 z)) h
    exact key _ h (ev_meth hE ok st (by rw [zip_len', of_decide_eq_true o1]; exact mthN_ok m) (by rw [e0]; exact baseB_ok o2) o3 (mkE (congrArg (fun z => kid 0 (kid 0 z)) h) (and_ok o4).1) (mkEs (congrArg args h) (and_ok o4).2) H)
  | items x => exact key _ h (ev_items S ok st (gnB_ok (and_ok o).1) (lnB_ok (and_ok (and_ok o).2).1) (and_ok (and_ok o).2).2 H)
  | firstKey x => exact key _ h (ev_firstKey S ok st (gnB_ok (and_ok o).1) (lnB_ok (and_ok (and_ok o).2).1) (and_ok (and_ok o).2).2 H)
  | index a i => exact key _ h (ev_index hE ok st (mkE (congrArg (kid 0) h) (and_ok o).1) (mkE (congrArg (kid 1) h) (and_ok o).2) H)
  | upto a i => exact key _ h (ev_upto hE ok st (mkE (congrArg (kid 0) h) (and_ok o).1) (mkE (congrArg (fun z => kid 0 (kid 1 z)) h) (and_ok o).2) H)
  | behind a i => exact key _ h (ev_behind hE ok st (mkE (congrArg (kid 0) h) (and_ok o).1) (mkE (congrArg (fun z => kid 0 (kid 1 z)) h) (and_ok o).2) H)
  | list is => exact key _ h (ev_list hE ok st (mkEs (congrArg (fun z => (look z).1) h) o) H)
  | tuple is => exact key _ h (ev_tuple hE ok st (mkEs (congrArg (fun z => (look z).1) h) o) H)
  | comp ei x it cond =>
    obtain ⟨o1, o2⟩ := and_ok o
    obtain ⟨o2, o3⟩ := and_ok o2
    exact key _ h (ev_comp S hE hT ok (csB_ok o1) st (mkI (congrArg (kid 2) h) o2) (mkE (congrArg (kid 0) h) (and_ok o3).1) (mkIf h (and_ok o3).2) H)
  | fstr ps =>
    obtain ⟨o1, o2⟩ := and_ok o
    have o1 := of_decide_eq_true o1
    have hf := mkFs (congrArg (fun z => (look z).1) h) o2
    refine key _ h ?_
    cases ps with
    | nil => cases o1
    | cons p ps => cases ps with
      | nil => exact absurd o1 (by show ¬ 2 ≤ 1; decide)
      | cons q ps => exact ev_fstr hE ok st hf H
theorem ts_sound' (S : Stat (prog, w) b0 mg mb consts) (hE : SEv prog w b0 r n) (hT : STs prog w b0 r n) {r' : Rec} (hr : r'.ts = tsI r) : STs prog w b0 r' (n + 1) := by
  intro c E φ Ω s e t Q Ex ok' st he H
  rw [hr] at H
  exact ts_sound S hE hT (ok'.le (Nat.le_succ n)) st he H
/-- what stands at one level -/
structure All (prog : Program) (w : World) (b0 : Heap) (mg : PySem.Str → Option Value) (r : Rec) (n : Nat) : Prop where
  ev : SEv prog w b0 r n
  ts : STs prog w b0 r n
  ex : SEx prog w b0 r n
  fn : SFn prog w b0 mg r n
  fm : SFm prog w b0 mg r n
  has : SHas b0 mg r
theorem ex_sound (S : Stat (prog, w) b0 mg mb consts) (hA : All prog w b0 mg r n) (hC : (∀ φ i, r.ev φ i = .bad) ∨ ∃ r₀, r.ev = evI consts r₀ ∧ SEv prog w b0 r₀ n ∧ STs prog w b0 r₀ n) {r' : Rec} (hr : r'.ex = exI r) : SEx prog w b0 r' (n + 1) := by
  intro c E φ Ω s a i Q Ex ok' fn hp st ha H
  rw [hr] at H
  have ok := ok'.le (Nat.le_succ n)
  obtain ⟨k, h, o⟩ := ha.one
  have key : ∀ a', a' = a → wpAny (model prog w) c.A (exec a' c.env) Q Ex s → wpAny (model prog w) c.A (exec a c.env) Q Ex s := fun _ q z => q ▸ z
  cases i with
  | assign x e =>
    obtain ⟨o1, o2⟩ := and_ok o
    have hv := congrArg (sk 0) h
    by_cases hc : isComp e = true
    · cases e <;> first | cases hc | skip
      rename_i ei y it cond
      cases k with
      | zero => cases o2
      | succ k =>
        obtain ⟨c1, c2⟩ := and_ok o1
        obtain ⟨c2, c3⟩ := and_ok c2
        obtain ⟨l1, l2, l3⟩ := loB_ok c1
        obtain ⟨o2, o3⟩ := and_ok o2
        obtain ⟨o3, o4⟩ := and_ok o3
        refine key _ h ?_
        dsimp only [exI] at H
        rcases hC with hb | ⟨r₀, e, hE, hT⟩
        · rw [hb] at H; exact H.elim
        · rw [e] at H
          exact ex_assignComp S hE hT ok st l1 l2 l3 c2 (Bool.not_eq_true' _ ▸ c3) (csB_ok o2) (mkI (congrArg (kid 2) hv) o3) (mkE (congrArg (kid 0) hv) (and_ok o4).1) (mkIf hv (and_ok o4).2) H
    · have hc : isComp e = false := Bool.eq_false_iff.mpr hc
      exact key _ h (ex_assign hA.ev ok st (asB_ok o1 hc) (mkE hv o2) hc H)
  | unpack xs e =>
    obtain ⟨o1, o2⟩ := and_ok o
    exact key _ h (ex_unpack hA.ev ok st (nmsB_ok o1) (mkE (congrArg (sk 0) h) (and_ok o2).2) (Bool.not_eq_true' _ ▸ (and_ok o2).1) H)
  | newAcc x => exact key _ h (ex_newAcc ok st (lnB_ok o) H)
  | newTab x => exact key _ h (ex_newTab S ok st (lnB_ok o) H)
  | append x e =>
    obtain ⟨o1, o2⟩ := and_ok o
    exact key _ h (ex_append0 hA.ev ok st (lnB_ok o1) (and_ok o2).1 (mkE (congrArg (fun z => kid 1 (sk 0 z)) h) (and_ok o2).2) (G.mono (res := appI r φ x e) H (fun _ _ z => z) fun _ _ X => X.low st.st))
  | appendMut x f t es =>
    obtain ⟨o1, o2⟩ := and_ok o
    obtain ⟨o2, o3⟩ := and_ok o2
    obtain ⟨o3, o4⟩ := and_ok o3
    exact key _ h (ex_appendMut S hA.ev hA.fm hA.has ok st (lnB_ok o1) o2 (gnB_ok o3) (lnB_ok (and_ok o4).1) (mkEs (congrArg (fun z => (args (kid 1 (sk 0 z))).tail) h) (and_ok o4).2) H)
  | setKey t k e =>
    obtain ⟨o1, o2⟩ := and_ok o
    exact key _ h (ex_setKey hA.ev ok st (lnB_ok o1) (mkE (congrArg (fun z => kid 1 (sk 1 z)) h) (and_ok o2).1) (mkE (congrArg (sk 0) h) (and_ok o2).2) H)
  | popTo y t k =>
    obtain ⟨o1, o2⟩ := and_ok o
    obtain ⟨o2, o3⟩ := and_ok o2
    exact key _ h (ex_popTo hA.ev ok st (lnB_ok o1) (lnB_ok o2) (and_ok o3).1 (mkE (congrArg (fun z => kid 1 (sk 0 z)) h) (and_ok o3).2) H)
  | popKey t k =>
    obtain ⟨o1, o2⟩ := and_ok o
    exact key _ h (ex_popKey hA.ev ok st (lnB_ok o1) (and_ok o2).1 (mkE (congrArg (fun z => kid 1 (sk 0 z)) h) (and_ok o2).2) H)
  | delKey t k => exact key _ h (ex_delKey hA.ev ok st (lnB_ok (and_ok o).1) (mkE (congrArg (fun z => kid 1 (sk 0 z)) h) (and_ok o).2) H)
  | ite t a b =>
    obtain ⟨o1, o2⟩ := and_ok o
    exact key _ h (ex_ite hA.ts hA.ex ok fn hp st (mkT (congrArg (sk 0) h) o1) (mkB (congrArg (fun z => (slook z).2.1) h) (and_ok o2).1) (mkB (congrArg (fun z => (slook z).2.2.1) h) (and_ok o2).2) H)
  | for1 x it is =>
    obtain ⟨o1, o2⟩ := and_ok o
    obtain ⟨o2, o3⟩ := and_ok o2
    exact key _ h (ex_for1 S hA.ev hA.ex ok fn hp st (lnB_ok o1) o2 (mkI (congrArg (sk 1) h) (and_ok o3).1) (mkB (congrArg (fun z => (slook z).2.1) h) (and_ok o3).2) H)
  | forN xs it is =>
    obtain ⟨o1, o2⟩ := and_ok o
    obtain ⟨o2, o3⟩ := and_ok o2
    have hb := mkB (congrArg (fun z => (slook z).2.1) h) o3
    refine key _ h ?_
    · cases it <;> first | cases o2 | skip
      rename_i i
      obtain ⟨z1, z2⟩ := and_ok o2
      obtain ⟨c2, c3⟩ := and_ok z2
      have m1 := List.all_eq_true.mp (and_ok o1).1
      have m2 := of_decide_eq_true (and_ok o1).2
      have c1 := of_decide_eq_true z1
      cases k with
      | zero => cases c3
      | succ k =>
        cases xs with
        | nil => cases c1
        | cons x xs => cases xs with
          | nil => cases c1
          | cons y xs => cases xs with
            | cons z xs => cases c1
            | nil => exact ex_forE S hA.ev hA.ex ok fn hp st (lnB_ok (m1 x (.head _))) (lnB_ok (m1 y (.tail _ (.head _)))) (fun q => (List.nodup_cons.mp m2).1 (q ▸ .head _)) (gnB_ok c2) (mkE (congrArg (fun z => kid 1 (sk 1 z)) h) c3) hb H
  | ret e => exact key _ h (ex_ret hA.ev ok st (mkE (congrArg (sk 0) h) o) H)
  | raise e => exact key _ h (ex_raise0 S hA.ev ok st (gnB_ok (and_ok o).1) (mkE (congrArg (fun z => kid 1 (sk 0 z)) h) (and_ok o).2) (G.mono (res := raiseI r φ e) H (fun _ _ z => z) fun _ _ X => X.low st.st))
  | tryStr x e y er =>
    obtain ⟨z0, z1⟩ := and_ok o
    obtain ⟨o1, z2⟩ := and_ok z1
    obtain ⟨o2, z3⟩ := and_ok z2
    obtain ⟨o3, z4⟩ := and_ok z3
    obtain ⟨o4, z5⟩ := and_ok z4
    obtain ⟨o5, o6⟩ := and_ok z5
    obtain ⟨k, rfl⟩ : ∃ m, k = m + 5 := ⟨k - 5, (Nat.sub_add_cancel (of_decide_eq_true z0)).symm⟩
    obtain ⟨l1, l2, l3⟩ := loB_ok o2
    have hc : isComp e = false := Bool.not_eq_true' _ ▸ o4
    obtain ⟨a1, a2⟩ := and_ok o5
    obtain ⟨b1, b2⟩ := and_ok o6
    exact key _ h (ex_tryStr S hA.ev ok fn st (asB_ok a1 hc) (mkE (congrArg (fun z => sk 0 (body0 z)) h) a2) hc (gnB_ok o1) l1 l2 l3 (lnB_ok b1) (gnB_ok (and_ok b2).1) (of_decide_eq_true o3) H)
  | tryLine t1 x e1 t2 e2 m nu =>
    obtain ⟨z0, z1⟩ := and_ok o
    obtain ⟨o1, z2⟩ := and_ok z1
    obtain ⟨o2, z3⟩ := and_ok z2
    obtain ⟨o3, o4⟩ := and_ok z3
    obtain ⟨k, rfl⟩ : ∃ m, k = m + 5 := ⟨k - 5, (Nat.sub_add_cancel (of_decide_eq_true z0)).symm⟩
    obtain ⟨l1, l2, l3⟩ := loB_ok o1
    obtain ⟨a1, a2⟩ := and_ok o4
    obtain ⟨a2, a3⟩ := and_ok a2
    obtain ⟨p1, p2⟩ := and_ok (and_ok a2).1
    obtain ⟨a3, _⟩ := and_ok a3
    obtain ⟨b1, b2⟩ := and_ok a3
    obtain ⟨b2, b3⟩ := and_ok b2
    obtain ⟨q1, q2⟩ := and_ok (and_ok b2).1
    obtain ⟨r1, r2⟩ := and_ok (and_ok b3).1
    exact key _ h (ex_tryLine S hA.ev hA.ts ok fn hp st (mkT (congrArg (fun z => sk 0 (body0 z)) h) a1) (lnB_ok p1) (and_ok p2).1 (mkE (congrArg (fun z => kid 1 (sk 0 (body0 (body0 z)))) h) (and_ok p2).2)
      (mkT (congrArg (fun z => sk 0 ((slook (body0 z)).2.2.1.headD default)) h) b1) (and_ok q2).1 (mkE (congrArg (fun z => kid 1 (sk 0 (body0 ((slook (body0 z)).2.2.1.headD default)))) h) (and_ok q2).2)
      (gnB_ok r1) (mkE (congrArg (fun z => kid 1 (sk 0 ((slook ((slook (body0 z)).2.2.1.headD default)).2.2.1.headD default))) h) r2) l1 l2 l3 (lnB_ok o2) (of_decide_eq_true o3) H)
  | pickFirst x y t => exact key _ h (ex_pickFirst ok hp st (lnB_ok (and_ok o).1) (lnB_ok (and_ok (and_ok o).2).1) (lnB_ok (and_ok (and_ok o).2).2) H)
  | cont => exact key _ h (ex_cont st H)
  | brk => exact key _ h (ex_brk st H)
theorem SEv.le {m : Nat} (h : SEv prog w b0 r n) (hm : n ≤ m) : SEv prog w b0 r m := fun c E φ Ω s e i Q Ex ok => h c E φ Ω s e i Q Ex (ok.le hm)
theorem STs.le {m : Nat} (h : STs prog w b0 r n) (hm : n ≤ m) : STs prog w b0 r m := fun c E φ Ω s e i Q Ex ok => h c E φ Ω s e i Q Ex (ok.le hm)
variable {tbl : Tbl}
/-- the small language is sound -/
theorem all_sound (S : Stat (prog, w) b0 mg mb consts) (hT : TblOk b0 mg tbl) (n : Nat) : All prog w b0 mg (recN tbl consts n) n ∧ ((∀ φ i, (recN tbl consts n).ev φ i = .bad) ∨ ∃ r₀, (recN tbl consts n).ev = evI consts r₀ ∧ SEv prog w b0 r₀ n ∧ STs prog w b0 r₀ n) := by
  induction n with
  | zero => exact ⟨⟨fun _ _ _ _ _ _ _ _ _ _ _ _ H => H.elim, fun _ _ _ _ _ _ _ _ _ _ _ _ H => H.elim, fun _ _ _ _ _ _ _ _ _ _ _ _ _ _ H => H.elim, fun _ _ _ _ _ _ _ _ _ _ _ _ _ _ _ H => H.elim, fun _ _ _ _ _ _ _ _ _ _ _ _ _ _ _ _ _ _ _ _ _ _ _ H => H.elim, fun _ h => nomatch h⟩, .inl fun _ _ => rfl⟩
  | succ n ih =>
    obtain ⟨hA, hC⟩ := ih
    refine ⟨⟨ev_sound S hA.ev hA.ts hA.fn hA.has rfl, ts_sound' S hA.ev hA.ts rfl, ex_sound S hA hC rfl, fn_sound S hT hA.ex rfl, fm_sound S hT hA.ex rfl, ?_⟩, .inr ⟨_, rfl, hA.ev.le (Nat.le_succ n), hA.ts.le (Nat.le_succ n)⟩⟩
    intro f h
    have h : (tbl f).isSome = true := h
    cases ht : tbl f with
    | none => rw [ht] at h; cases h
    | some q =>
      obtain ⟨ps, body⟩ := q
      obtain ⟨fa, hm, hF⟩ := hT f ps body ht
      obtain ⟨o, fd, _, ho, hd, _⟩ := hF.ex
      exact ⟨fa, o, fd, hm, ho, hd⟩
end
end Mine
end

section
set_option Elab.async false
namespace Mine
open PySem PySem.W PySem.Calls PyProof.Rows

/-! ## from the top of the text to what the walk asks -/
noncomputable def optAll {α β : Type} (f : α → Option β) : List α → Option (List β)
  | [] => some []
  | x :: xs => (f x).bind fun d => (optAll f xs).map fun ds => d :: ds
noncomputable def litV : Nat → WData → Option V
  | 0, _ => none
  | n + 1, d => match d with
    | .none => some .none
    | .bool b => some (.bool b)
    | .int i => some (.int i)
    | .str x => if shortB x then some (.str x) else Option.none
    | .tuple xs => (optAll (litV n) xs).bind fun ds => if decide (ds.length ≤ 1000) then some (.tuple ds) else Option.none
    | _ => Option.none
theorem big_size : 100000 ≤ sizeLine := by rw [sizeLine_eq]; decide
theorem if_some {α : Type} {b : Bool} {x y : α} (h : (if b then some x else none) = some y) : b = true ∧ x = y := by
  cases b with
  | true => exact ⟨rfl, Option.some.inj h⟩
  | false => cases h
section
variable {P : Program × World} {Rc : WRecords} {cl : PySem.Str → Option Addr} {h : Heap}
theorem lits_RA {f : WData → Option V} (H : ∀ {v : Value} {d : WData} {as : List Addr} {dv : V}, ReadsW Rc cl h v d as → f d = some dv → R P (fun _ => True) h v dv) {ds : List WData} : ∀ {vs : List Value} {as : List Addr} {dvs : List V}, ReadsAllW Rc cl h vs ds as → optAll f ds = some dvs → RA P (fun _ => True) h vs dvs := by
  induction ds with
  | nil => intro vs as dvs hr e; cases hr; cases e; exact .nil
  | cons d ds ih =>
    intro vs as dvs hr e
    cases hr with
    | cons a b =>
      obtain ⟨x, h1, e⟩ := Option.bind_eq_some_iff.mp e
      obtain ⟨xs, h2, e⟩ := Option.map_eq_some_iff.mp e
      cases e
      exact .cons (H a h1) (ih b h2)
theorem lit_R {n : Nat} : ∀ {v : Value} {d : WData} {as : List Addr} {dv : V}, ReadsW Rc cl h v d as → litV n d = some dv → R P (fun _ => True) h v dv := by
  induction n with
  | zero => intro v d as dv _ e; cases e
  | succ n ih =>
    intro v d as dv hr e
    cases hr with
    | none => cases e; exact .none
    | bool b => cases e; exact .bool b
    | int i t => cases e; exact .int i t
    | str x t =>
      obtain ⟨q, rfl⟩ := if_some e
      exact .str _ _ (shortB_ok q)
    | tuple h1 h2 h3 h4 =>
      obtain ⟨ds, h5, e⟩ := Option.bind_eq_some_iff.mp e
      obtain ⟨q, rfl⟩ := if_some e
      have ra := lits_RA ih h4 h5
      exact .tuple trivial h1 h2 h3 (ra.length ▸ Nat.le_trans (of_decide_eq_true q) (Nat.le_trans (by decide) big_size)) ra
    | _ => cases e
end
noncomputable def bindOk (ps : List String) : Prop := ∀ (name : PySem.Str) (args : List Arg) (body : List Stmt) (scope : Scope) (pm code doc : Value) (vals : List Value), args.map (·.arg) = ps.map nm → vals.length = ps.length →
  bindArgs (docDef name ⟨[], args, none, [], [], none, []⟩ body scope pm code doc) ⟨vals, []⟩ = pure ((ps.map nm).zip vals)
noncomputable def parB (a : Arguments) (ps : List String) : Bool := a.posonlyargs.isEmpty && (a.vararg.isNone && (a.kwonlyargs.isEmpty && (a.kw_defaults.isEmpty && (a.kwarg.isNone && (a.defaults.isEmpty && a.args.map (·.arg) == ps.map nm)))))
theorem parB_ok {a : Arguments} {ps : List String} (h : parB a ps = true) : a = ⟨[], a.args, none, [], [], none, []⟩ ∧ a.args.map (·.arg) = ps.map nm := by
  obtain ⟨h1, h⟩ := and_ok h
  obtain ⟨h2, h⟩ := and_ok h
  obtain ⟨h3, h⟩ := and_ok h
  obtain ⟨h4, h⟩ := and_ok h
  obtain ⟨h5, h⟩ := and_ok h
  obtain ⟨h6, h⟩ := and_ok h
  obtain ⟨a1, a2, a3, a4, a5, a6, a7⟩ := a
  refine ⟨?_, eq_of_beq h⟩
  cases List.isEmpty_iff.mp h1
  cases Option.isNone_iff_eq_none.mp h2
  cases List.isEmpty_iff.mp h3
  cases List.isEmpty_iff.mp h4
  cases Option.isNone_iff_eq_none.mp h5
  cases List.isEmpty_iff.mp h6
  rfl
noncomputable def dOf (p : Program) (f : String) : Option DefRec := (recsOf p).find? fun d => d.name == nm f
noncomputable def bodyOf (p : Program) (f : String) : List Stmt := match dOf p f with
  | some d => d.body
  | none => []
noncomputable def defB (p : Program) (f : String) (ps : List String) (body : List IS) : Bool := match dOf p f with
  | some d => parB d.params ps && (decide (d.scope.kind = .function ∧ d.scope.isCoroutine = false ∧ d.scope.isGenerator = false ∧ ((cellsFrom 0 d.scope.names []).map (·.1)).Nodup ∧ ps.Nodup) && (ps.all (lnB d.scope) && zipB (okS 60 d.scope) body d.body))
  | none => false
theorem defB_ok {p : Program} {loose : List PySem.Str} {mean : ExcName → Option Value} {mg mb : PySem.Str → Option Value} {h : Heap} (T : Top p loose mean mg mb h) {f : String} {ps : List String} {body : List IS} (hb : bindOk ps) (hk : defB p f ps body = true) (he : zipW (toS 60) body (bodyOf p f) = bodyOf p f) : ∃ fa, mg (nm f) = some (.ref fa) ∧ FnOk h fa ps body := by
  unfold defB at hk
  unfold bodyOf at he
  cases hf : dOf p f with
  | none => rw [hf] at hk; cases hk
  | some d =>
    rw [hf] at hk he
    have he : zipW (toS 60) body d.body = d.body := he
    obtain ⟨k1, k⟩ := and_ok hk
    obtain ⟨k', k⟩ := and_ok k
    obtain ⟨k7, k8⟩ := and_ok k
    obtain ⟨k2, k3, k4, k5, k6⟩ := of_decide_eq_true k'
    have hm := List.mem_of_find?_eq_some hf
    have hn : d.name = nm f := eq_of_beq (List.find?_some (p := fun d : DefRec => d.name == nm f) hf)
    obtain ⟨ha, hargs⟩ := parB_ok k1
    obtain ⟨fa, o, pm, code, doc, e1, e2, e3, e4⟩ := T.fn d hm
    rw [hn] at e1
    refine ⟨fa, e1, ⟨⟨o, _, d.body, e2, e3, rfl, rfl, rfl, rfl, k2, k3, k4, e4, fun s vals hl => BindsTo.of_eq ?_, fun q hq => lnB_ok (List.all_eq_true.mp k7 q hq), k5, by have q := mkB he k8; rw [he] at q; exact q⟩, k6⟩⟩
    rw [ha]
    exact hb _ _ _ _ _ _ _ _ hargs hl
/-- the names that no line binds -/
noncomputable def freeB (p : Program) (loose : List PySem.Str) : Bool := ["len", "str", "int", "list", "dict", "isinstance", "type", "bool", "reversed", "enumerate", "range", "ValueError"].all fun x =>
  !startupNames.contains (nm x) && !loose.contains (nm x) && !((recsOf p).map (·.name)).contains (nm x) && !((litsOf p).map (·.1)).contains (nm x) && !((clssOf p loose).map (·.name)).contains (nm x)
theorem freeB_ok {p : Program} {loose : List PySem.Str} {mean : ExcName → Option Value} {mg mb : PySem.Str → Option Value} {h : Heap} (T : Top p loose mean mg mb h) (hf : freeB p loose = true) : ∀ x ∈ ["len", "str", "int", "list", "dict", "isinstance", "type", "bool", "reversed", "enumerate", "range", "ValueError"], mg (nm x) = none := by
  intro x hx
  have q := List.all_eq_true.mp hf x hx
  simp only [Bool.and_eq_true, Bool.not_eq_true', List.contains_eq_mem, decide_eq_false_iff_not] at q
  exact T.free _ q.1.1.1.1 q.1.1.1.2 q.1.1.2 q.1.2 q.2
/-- a constant of the top -/
noncomputable def intV : PyData → Option V
  | .int i => some (.int i)
  | _ => none
noncomputable def conB (p : Program) (lv : List (PySem.Str × WData)) (x : String) : Option V := match (lv ++ wlitsOf p).find? fun c => c.1 == nm x with
  | some c => litV 9 c.2
  | none => (valOf p (nm x)).bind intV
theorem conB_ok {P : Program × World} {p : Program} {loose : List PySem.Str} {mean : ExcName → Option Value} {mg mb : PySem.Str → Option Value} {h : Heap} {lv : List (PySem.Str × WData)} (T : Top p loose mean mg mb h) (W : TopW p mg h) (L : LooseAre lv mg h) {x : String} {d : V} (hd : conB p lv x = some d) : ∃ v, mg (nm x) = some v ∧ R P (fun _ => True) h v d := by
  unfold conB at hd
  cases hc : (lv ++ wlitsOf p).find? fun c => c.1 == nm x with
  | none =>
    rw [hc] at hd
    obtain ⟨q, hi, hd⟩ := Option.bind_eq_some_iff.mp hd
    obtain ⟨v, e, r⟩ := T.const _ _ hi
    cases q <;> cases hd
    have r := r h
    cases r
    exact ⟨_, e, .int _ _⟩
  | some c =>
    rw [hc] at hd
    have hm := List.mem_of_find?_eq_some hc
    have hn : c.1 = nm x := eq_of_beq (List.find?_some (p := fun c : PySem.Str × WData => c.1 == nm x) hc)
    rcases List.mem_append.mp hm with hm | hm
    · obtain ⟨v, e, r⟩ := L.val c hm
      exact ⟨v, hn ▸ e, lit_R r hd⟩
    · obtain ⟨v, e, r⟩ := W.lits c hm
      exact ⟨v, hn ▸ e, lit_R r hd⟩
end Mine
end

section
set_option Elab.async false
namespace Mine
open PySem

/-! ## law 5: the pure side -/
/-- get (true) or put; the key; the value -/
structure Deed where
  get : Bool
  key : PySem.Str
  val : Int
abbrev Cch := List (PySem.Str × Int)
noncomputable def keys (c : Cch) : List PySem.Str := c.map (·.1)
noncomputable def hstep (cap : Int) (acc : Cch) (t : PySem.Str × Int) : Cch := if (acc.length : Int) < cap ∧ t.1 ∉ keys acc then t :: acc else acc
noncomputable def held (cap : Int) (log : Cch) : Cch := log.reverse.foldl (hstep cap) []
noncomputable def off (k : PySem.Str) (c : Cch) : Cch := c.filter fun p => p.1 ≠ k
/-- the cache, with the key laid at its end -/
noncomputable def laid (cap : Int) (c : Cch) (k : PySem.Str) (v : Int) : V × Cch :=
  if k ∈ keys c then (.str (PySem.Str.ofString ""), off k c ++ [(k, v)])
  else if cap ≤ (c.length : Int) then (match c with | p :: c' => (.str p.1, c' ++ [(k, v)]) | [] => (.str (PySem.Str.ofString ""), [(k, v)]))
  else (.str (PySem.Str.ofString ""), c ++ [(k, v)])
noncomputable def stp (cap : Int) (c : Cch) (d : Deed) : V × Cch :=
  if d.get then (match c.lookup d.key with | some v => (.int v, off d.key c ++ [(d.key, v)]) | none => (.none, c))
  else laid cap c d.key d.val
noncomputable def run (cap : Int) : Cch → List Deed → List V × Cch
  | c, [] => ([], c)
  | c, d :: ds => ((stp cap c d).1 :: (run cap (stp cap c d).2 ds).1, (run cap (stp cap c d).2 ds).2)

theorem off_none {k : PySem.Str} {c : Cch} (h : k ∉ keys c) : off k c = c :=
  List.filter_eq_self.mpr fun p hp => decide_eq_true fun z => h (List.mem_map.mpr ⟨p, hp, z⟩)
theorem keys_off {k : PySem.Str} (c : Cch) : keys (off k c) = (keys c).filter (· ≠ k) := by
  unfold keys off; rw [List.filter_map]; rfl
theorem mem_off {k x : PySem.Str} {c : Cch} : x ∈ keys (off k c) ↔ x ∈ keys c ∧ x ≠ k := by
  rw [keys_off, List.mem_filter]; simp
theorem keys_app (a b : Cch) : keys (a ++ b) = keys a ++ keys b := List.map_append
theorem lookup_keys {c : Cch} {k : PySem.Str} : c.lookup k = none ↔ k ∉ keys c := by
  induction c with
  | nil => simp [keys]
  | cons p c ih =>
    obtain ⟨a, b⟩ := p
    rw [List.lookup_cons]
    unfold keys at ih ⊢
    by_cases e : k = a
    · subst e; simp
    · rw [beq_eq_false_iff_ne.mpr e]; simp only [List.map_cons, List.mem_cons, not_or]; exact ih.trans ⟨fun z => ⟨e, z⟩, fun z => z.2⟩
theorem hits_one {c : Cch} {k : PySem.Str} {v : Int} (hn : (keys c).Nodup) (h : c.lookup k = some v) : c.filter (fun p => p.1 = k) = [(k, v)] := by
  induction c with
  | nil => simp at h
  | cons p c ih =>
    obtain ⟨a, b⟩ := p
    rw [List.lookup_cons] at h
    have hn' := List.nodup_cons.mp hn
    by_cases e : k = a
    · subst e
      simp only [beq_self_eq_true, Option.some.injEq] at h
      subst h
      rw [List.filter_cons_of_pos (by simp)]
      congr 1
      refine List.filter_eq_nil_iff.mpr fun q hq => ?_
      simp only [decide_eq_true_eq]
      exact fun z => hn'.1 (List.mem_map.mpr ⟨q, hq, z⟩)
    · rw [beq_eq_false_iff_ne.mpr e] at h
      rw [List.filter_cons_of_neg (by simpa using Ne.symm e)]
      exact ih hn'.2 h
theorem off_len {k : PySem.Str} {c : Cch} (hn : (keys c).Nodup) (h : k ∈ keys c) : (off k c).length + 1 = c.length := by
  induction c with
  | nil => simp [keys] at h
  | cons p c ih =>
    obtain ⟨a, b⟩ := p
    have hn' := List.nodup_cons.mp hn
    unfold off
    by_cases e : a = k
    · subst e
      rw [List.filter_cons_of_neg (by simp)]
      have := off_none (k := a) (c := c) hn'.1
      unfold off at this
      rw [this]; rfl
    · rw [List.filter_cons_of_pos (by simpa using e)]
      have : k ∈ keys c := by
        unfold keys at h ⊢
        simp only [List.map_cons, List.mem_cons] at h
        exact h.resolve_left fun z => e z.symm
      have := ih hn'.2 this
      unfold off at this
      simp only [List.length_cons]; omega
/-- the two runs, side by side -/
noncomputable def Twin (c : Nat) (k : PySem.Str) (a1 a2 : Cch) : Prop := (k ∉ keys a2 ∧ a1 = a2 ∧ a2.length ≤ c) ∨ (k ∈ keys a2 ∧ a1 = off k a2) ∨ (k ∉ keys a2 ∧ a2.length = c + 1 ∧ ∃ t, a2 = t :: a1)
theorem held_snoc_aux {c : Nat} {k : PySem.Str} {v : Int} : ∀ (l : Cch) {a1 a2 : Cch}, (keys a2).Nodup → a2.length ≤ c + 1 → Twin c k a1 a2 →
    ∃ b1 b2, l.foldl (hstep ((c + 1 : Nat) : Int)) (a1 ++ [(k, v)]) = b1 ++ [(k, v)] ∧ l.foldl (hstep ((c + 1 : Nat) : Int)) a2 = b2 ∧ (keys b2).Nodup ∧ b2.length ≤ c + 1 ∧ Twin c k b1 b2 := by
  intro v0
  induction v0 with
  | nil => intro a1 a2 hn hl h; exact ⟨a1, a2, rfl, rfl, hn, hl, h⟩
  | cons t l ih =>
    intro a1 a2 hn hl h
    have step : ∃ a1' a2', hstep ((c + 1 : Nat) : Int) (a1 ++ [(k, v)]) t = a1' ++ [(k, v)] ∧ hstep ((c + 1 : Nat) : Int) a2 t = a2' ∧ (keys a2').Nodup ∧ a2'.length ≤ c + 1 ∧ Twin c k a1' a2' := by
      unfold hstep
      have hk1 : ∀ x : PySem.Str, x ∈ keys (a1 ++ [(k, v)]) ↔ x ∈ keys a1 ∨ x = k := fun x => by rw [keys_app]; simp [keys]
      have hlen : (a1 ++ [(k, v)]).length = a1.length + 1 := by simp
      rcases h with ⟨hk, rfl, hle⟩ | ⟨hk, rfl⟩ | ⟨hk, hle, t0, rfl⟩
      · -- the same so far
        by_cases c1 : ((a1.length : Nat) : Int) < ((c + 1 : Nat) : Int) ∧ t.1 ∉ keys a1
        · rw [if_pos c1]
          have hn' : (keys (t :: a1)).Nodup := List.nodup_cons.mpr ⟨c1.2, hn⟩
          by_cases e : t.1 = k
          · -- the key comes in the second run
            rw [if_neg (fun z => z.2 ((hk1 _).mpr (.inr e)))]
            refine ⟨a1, t :: a1, rfl, rfl, hn', by simp; omega, .inr (.inl ⟨by unfold keys; simp [e], ?_⟩)⟩
            show a1 = off k (t :: a1)
            unfold off
            rw [List.filter_cons_of_neg (by simp [e])]
            exact (off_none hk).symm
          · by_cases c2 : a1.length < c
            · rw [if_pos ⟨by rw [hlen]; omega, fun z => by rcases (hk1 _).mp z with z | z; exact c1.2 z; exact e z⟩]
              exact ⟨t :: a1, t :: a1, rfl, rfl, hn', by simp; omega, .inl ⟨by unfold keys; simp only [List.map_cons, List.mem_cons, not_or]; exact ⟨Ne.symm e, hk⟩, rfl, by simp; omega⟩⟩
            · rw [if_neg (fun z => by have := z.1; rw [hlen] at this; omega)]
              exact ⟨a1, t :: a1, rfl, rfl, hn', by simp; omega, .inr (.inr ⟨by unfold keys; simp only [List.map_cons, List.mem_cons, not_or]; exact ⟨Ne.symm e, hk⟩, by simp; omega, t, rfl⟩)⟩
        · rw [if_neg c1, if_neg (fun z => c1 ⟨by have := z.1; rw [hlen] at this; omega, fun q => z.2 ((hk1 _).mpr (.inl q))⟩)]
          exact ⟨a1, a1, rfl, rfl, hn, hl, .inl ⟨hk, rfl, hle⟩⟩
      · -- the second run has it
        have hol := off_len hn hk
        have hmem : t.1 ∈ keys (off k a2 ++ [(k, v)]) ↔ t.1 ∈ keys a2 := by
          rw [hk1, mem_off]
          exact ⟨fun z => by rcases z with z | z; exact z.1; rw [z]; exact hk, fun z => by by_cases e : t.1 = k; exact .inr e; exact .inl ⟨z, e⟩⟩
        have hl2 : ((off k a2 ++ [(k, v)]).length : Int) = (a2.length : Int) := by rw [hlen]; omega
        by_cases c1 : ((a2.length : Nat) : Int) < ((c + 1 : Nat) : Int) ∧ t.1 ∉ keys a2
        · rw [if_pos c1, if_pos ⟨by rw [hl2]; exact c1.1, fun z => c1.2 (hmem.mp z)⟩]
          have e : t.1 ≠ k := fun z => c1.2 (z ▸ hk)
          refine ⟨t :: off k a2, t :: a2, rfl, rfl, List.nodup_cons.mpr ⟨c1.2, hn⟩, by simp; omega, .inr (.inl ⟨by unfold keys; exact List.mem_cons_of_mem _ hk, ?_⟩)⟩
          unfold off
          rw [List.filter_cons_of_pos (by simpa using e)]
        · rw [if_neg c1, if_neg (fun z => c1 ⟨by rw [← hl2]; exact z.1, fun q => z.2 (hmem.mpr q)⟩)]
          exact ⟨off k a2, a2, rfl, rfl, hn, hl, .inr (.inl ⟨hk, rfl⟩)⟩
      · -- both full
        rw [if_neg (fun z => by have := z.1; rw [hlen] at this; simp at hle; omega), if_neg (fun z => by have := z.1; omega)]
        exact ⟨a1, t0 :: a1, rfl, rfl, hn, hl, .inr (.inr ⟨hk, hle, t0, rfl⟩)⟩
    obtain ⟨a1', a2', e1, e2, n', l', tw⟩ := step
    obtain ⟨b1, b2, q1, q2, q3⟩ := ih n' l' tw
    exact ⟨b1, b2, by rw [List.foldl_cons, e1]; exact q1, by rw [List.foldl_cons, e2]; exact q2, q3⟩
theorem held_snoc {cap : Int} (hc : 1 ≤ cap) (log : Cch) (k : PySem.Str) (v : Int) : held cap (log ++ [(k, v)]) = (laid cap (held cap log) k v).2 ∧ (keys (held cap log)).Nodup ∧ ((held cap log).length : Int) ≤ cap := by
  obtain ⟨c, rfl⟩ : ∃ c : Nat, cap = ((c + 1 : Nat) : Int) := ⟨(cap - 1).toNat, by omega⟩
  obtain ⟨b1, b2, q1, q2, q3, q4, q5⟩ := held_snoc_aux (c := c) (k := k) (v := v) log.reverse (a1 := []) (a2 := []) List.nodup_nil (by simp) (.inl ⟨by simp [keys], rfl, by simp⟩)
  have e2 : held ((c + 1 : Nat) : Int) log = b2 := q2
  have e1 : held ((c + 1 : Nat) : Int) (log ++ [(k, v)]) = b1 ++ [(k, v)] := by
    unfold held
    rw [List.reverse_append]
    show List.foldl _ (hstep _ [] (k, v)) log.reverse = _
    have : hstep ((c + 1 : Nat) : Int) [] (k, v) = [] ++ [(k, v)] := by unfold hstep; rw [if_pos ⟨by simp, by simp [keys]⟩]; rfl
    rw [this]; exact q1
  rw [e1, e2]
  refine ⟨?_, q3, by omega⟩
  unfold laid
  rcases q5 with ⟨hk, rfl, hle⟩ | ⟨hk, rfl⟩ | ⟨hk, hle, t0, rfl⟩
  · rw [if_neg hk, if_neg (by omega)]
  · rw [if_pos hk]
  · rw [if_neg hk, if_pos (by omega)]
end Mine
end

section
set_option Elab.async false
set_option linter.unusedSimpArgs false
namespace Mine
open PySem
section
variable {tbl : Tbl} {consts : String → Option V} {n : Nat} {φ : Frm}
theorem ev_succ {e : IE} : (recN tbl consts (n + 1)).ev φ e = evI consts (recN tbl consts n) φ e := rfl
theorem ts_succ {t : TE} : (recN tbl consts (n + 1)).ts φ t = tsI (recN tbl consts n) φ t := rfl
theorem ex_succ {i : IS} : (recN tbl consts (n + 1)).ex φ i = exI (recN tbl consts n) φ i := rfl
theorem fn_succ {f : String} {us : List (V × Bool)} : (recN tbl consts (n + 1)).fn f us = fnI tbl (recN tbl consts n) f us := rfl
theorem fm_succ {f : String} {kvs : List (PySem.Str × V)} {us : List (V × Bool)} : (recN tbl consts (n + 1)).fm f kvs us = fmI tbl (recN tbl consts n) f kvs us := rfl
theorem has_succ {f : String} : (recN tbl consts (n + 1)).has f = (tbl f).isSome := rfl
section
variable {α β : Type}
theorem ok_bind {a : α} {f : α → Res β} : (Res.ok a).bind f = f a := rfl
theorem exc_bind {m : Msg} {f : α → Res β} : (Res.exc m : Res α).bind f = .exc m := rfl
theorem bad_bind {f : α → Res β} : (Res.bad : Res α).bind f = .bad := rfl
end
section
variable {α β : Type}
theorem onInt_ok {i : Int} {f : Int → Res α} : onInt (.int i) f = f i := rfl
theorem onStr_ok {i : PySem.Str} {f : PySem.Str → Res α} : onStr (.str i) f = f i := rfl
theorem onList_ok {i : List V} {f : List V → Res α} : onList (.list i) f = f i := rfl
theorem onTup_ok {i : List V} {f : List V → Res α} : onTup (.tuple i) f = f i := rfl
theorem onO_ok {b : β} {f : β → Res α} : onO (some b) f = f b := rfl
theorem onTab_ok {kvs : List (PySem.Str × V)} {f : List (PySem.Str × V) → Res α} : onTab (some (.tab kvs)) f = f kvs := rfl
theorem onAcc_ok {ds : List V} {f : List V → Res α} : onAcc (some (.acc ds)) f = f ds := rfl
theorem arg0_ok {r : Res V} : arg0 [] r = r := rfl
theorem arg1_ok {d : V} {f : V → Res V} : arg1 [d] f = f d := rfl
end
theorem atom_none : V.atom .none = true := rfl
theorem atom_bool {b : Bool} : V.atom (.bool b) = true := rfl
theorem atom_int {i : Int} : V.atom (.int i) = true := rfl
theorem atom_str {x : PySem.Str} : V.atom (.str x) = true := rfl
theorem atom_tuple {ds : List V} : V.atom (.tuple ds) = false := rfl
theorem atom_list {ds : List V} : V.atom (.list ds) = false := rfl
/-- what comes behind a statement -/
noncomputable def thenB (r : Rec) (is : List IS) (p : Fl × Frm) : Res (Fl × Frm) := match p.1 with
  | .next => blk r p.2 is
  | f => .ok (f, p.2)
theorem blk_nil {r : Rec} : blk r φ [] = .ok (.next, φ) := rfl
theorem blk_cons {r : Rec} {i : IS} {is : List IS} : blk r φ (i :: is) = (r.ex φ i).bind (thenB r is) := rfl
theorem next_then {r : Rec} {is : List IS} : thenB r is (.next, φ) = blk r φ is := rfl
theorem ret_then {r : Rec} {is : List IS} {d : V} {f : Bool} : thenB r is (.ret d f, φ) = .ok (.ret d f, φ) := rfl
theorem cont_then {r : Rec} {is : List IS} : thenB r is (.cont, φ) = .ok (.cont, φ) := rfl
theorem brk_then {r : Rec} {is : List IS} : thenB r is (.brk, φ) = .ok (.brk, φ) := rfl
end

noncomputable def pairV (p : PySem.Str × Int) : V := .tuple [.str p.1, .int p.2]
noncomputable def deedV (d : Deed) : V := .tuple [.str (if d.get then PySem.Str.ofString "get" else PySem.Str.ofString "put"), .str d.key, .int d.val]
noncomputable def tv (c : Cch) : List (PySem.Str × V) := c.map fun p => (p.1, V.int p.2)
theorem tv_look (c : Cch) (k : PySem.Str) : (tv c).lookup k = (c.lookup k).map V.int := by
  induction c with
  | nil => rfl
  | cons p c ih =>
    obtain ⟨a, b⟩ := p
    show List.lookup k ((a, V.int b) :: tv c) = _
    rw [List.lookup_cons, List.lookup_cons]
    cases k == a
    · exact ih
    · rfl
theorem tv_del (c : Cch) (k : PySem.Str) : dictDel k (tv c) = tv (off k c) := by
  unfold dictDel tv off; rw [List.filter_map]; rfl
theorem tv_len (c : Cch) : (tv c).length = c.length := List.length_map _
theorem tv_put {c : Cch} {k : PySem.Str} {v : Int} (h : k ∉ keys c) : dictPut (tv c) k (.int v) = tv (c ++ [(k, v)]) := by
  unfold dictPut
  rw [if_neg]
  · unfold tv; rw [List.map_append]; rfl
  · simp only [List.any_eq_true, decide_eq_true_eq, not_exists, not_and]
    intro p hp e
    obtain ⟨q, hq, rfl⟩ := List.mem_map.mp hp
    exact h (List.mem_map.mpr ⟨q, hq, e⟩)
theorem off_mem (c : Cch) (k : PySem.Str) : k ∉ keys (off k c) := fun z => (mem_off.mp z).2 rfl
theorem off_le (c : Cch) (k : PySem.Str) : (off k c).length ≤ c.length := List.length_filter_le _ _
namespace L5
open Mine
theorem t_cache_get : tbl "cache_get" = some (["cache", "key"], b_cache_get) := rfl
theorem t_cache_put : tbl "cache_put" = some (["cache", "key", "value", "capacity"], b_cache_put) := rfl
theorem t_cache_put_fast : tbl "cache_put_fast" = some (["cache", "key", "value", "capacity"], b_cache_put_fast) := rfl
section
variable {n : Nat} {c : Cch} {k : PySem.Str} {v cap : Int} {f f1 f2 f3 : Bool}
theorem cache_get_ok (d : Deed) (hd : d.get = true) (hl : c.length ≤ 1000) : (recN tbl consts (n+8)).fm "cache_get" (tv c) [(.str d.key, f)] = .ok (((stp cap c d).1, true), tv (stp cap c d).2) := by
  unfold stp
  rw [if_pos hd]
  cases h : c.lookup d.key with
  | none =>
    have h' : (tv c).lookup d.key = none := by rw [tv_look, h]; rfl
    simp [fm_succ, fn_succ, has_succ, fmI, fnI, blk_nil, blk_cons, next_then, ex_succ, exI, ts_succ, tsI, ev_succ, evI, ok_bind, exc_bind, bad_bind, List.lookup_cons, List.lookup_nil, cmpV, inV, eqV, eqD, freeze, upd, fzV, evs, fzs, truthV, atom_none, atom_bool, atom_int, atom_str, atom_tuple, atom_list, lenV, indexV, allI, anyI, binV, appI, iterI, evIt, condI, vals, Slot.kept, onInt_ok, onStr_ok, onList_ok, onTup_ok, onO_ok, onTab_ok, onAcc_ok, arg0_ok, arg1_ok, addV, ltV, atV, t_cache_get, b_cache_get, ret_then, h']
  | some v =>
    have h' : (tv c).lookup d.key = some (.int v) := by rw [tv_look, h]; rfl
    have hl' : (off d.key c).length ≤ 1000 := Nat.le_trans (off_le _ _) hl
    simp [fm_succ, fn_succ, has_succ, fmI, fnI, blk_nil, blk_cons, next_then, ex_succ, exI, ts_succ, tsI, ev_succ, evI, ok_bind, exc_bind, bad_bind, List.lookup_cons, List.lookup_nil, cmpV, inV, eqV, eqD, freeze, upd, fzV, evs, fzs, truthV, atom_none, atom_bool, atom_int, atom_str, atom_tuple, atom_list, lenV, indexV, allI, anyI, binV, appI, iterI, evIt, condI, vals, Slot.kept, onInt_ok, onStr_ok, onList_ok, onTup_ok, onO_ok, onTab_ok, onAcc_ok, arg0_ok, arg1_ok, addV, ltV, atV, t_cache_get, b_cache_get, ret_then, h', tv_len, tv_del, hl, hl', tv_put (off_mem _ _)]
theorem cache_put_ok (hc : 1 ≤ cap) (hn : (keys c).Nodup) (hl : c.length ≤ 1000) : (recN tbl consts (n+8)).fm "cache_put" (tv c) [(.str k, f1), (.int v, f2), (.int cap, f3)] = .ok (((laid cap c k v).1, true), tv (laid cap c k v).2) := by
  unfold laid
  by_cases hk : k ∈ keys c
  · rw [if_pos hk]
    obtain ⟨u, hu⟩ : ∃ u, c.lookup k = some u := by cases q : c.lookup k with | none => exact absurd hk (lookup_keys.mp q) | some u => exact ⟨u, rfl⟩
    have h' : (tv c).lookup k = some (.int u) := by rw [tv_look, hu]; rfl
    have hl' : (off k c).length ≤ 1000 := Nat.le_trans (off_le _ _) hl
    simp [fm_succ, fn_succ, has_succ, fmI, fnI, blk_nil, blk_cons, next_then, ex_succ, exI, ts_succ, tsI, ev_succ, evI, ok_bind, exc_bind, bad_bind, List.lookup_cons, List.lookup_nil, cmpV, inV, eqV, eqD, freeze, upd, fzV, evs, fzs, truthV, atom_none, atom_bool, atom_int, atom_str, atom_tuple, atom_list, lenV, indexV, allI, anyI, binV, appI, iterI, evIt, condI, vals, Slot.kept, onInt_ok, onStr_ok, onList_ok, onTup_ok, onO_ok, onTab_ok, onAcc_ok, arg0_ok, arg1_ok, addV, ltV, atV, t_cache_put, b_cache_put, ret_then, h', tv_len, tv_del, hl, hl', tv_put (off_mem _ _)]
  · rw [if_neg hk]
    have h' : (tv c).lookup k = none := by rw [tv_look, lookup_keys.mpr hk]; rfl
    by_cases hcap : cap ≤ (c.length : Int)
    · rw [if_pos hcap]
      cases c with
      | nil => simp at hcap; omega
      | cons p c =>
        have hl1 : c.length ≤ 1000 := by simp at hl; omega
        have hl2 : c.length + 1 ≤ 1000 := by simpa using hl
        have hl3 : c.length ≤ 999 := by omega
        have hcap' : cap ≤ (c.length : Int) + 1 := by simpa using hcap
        have e : tv (p :: c) = (p.1, V.int p.2) :: tv c := rfl
        have hk' : k ∉ keys c := fun z => hk (List.mem_cons_of_mem _ z)
        have hp : p.1 ∉ keys c := (List.nodup_cons.mp hn).1
        have hdel : dictDel p.1 ((p.1, V.int p.2) :: tv c) = tv c := by
          rw [← e, tv_del]
          show tv (List.filter _ _) = _
          rw [List.filter_cons_of_neg (by simp)]
          exact congrArg tv (off_none hp)
        have hlk : k ≠ p.1 := fun z => hk (by rw [z]; exact .head _)
        have h'' : (tv c).lookup k = none := by rw [tv_look, lookup_keys.mpr hk']; rfl
        simp [fm_succ, fn_succ, has_succ, fmI, fnI, blk_nil, blk_cons, next_then, ex_succ, exI, ts_succ, tsI, ev_succ, evI, ok_bind, exc_bind, bad_bind, List.lookup_cons, List.lookup_nil, cmpV, inV, eqV, eqD, freeze, upd, fzV, evs, fzs, truthV, atom_none, atom_bool, atom_int, atom_str, atom_tuple, atom_list, lenV, indexV, allI, anyI, binV, appI, iterI, evIt, condI, vals, Slot.kept, onInt_ok, onStr_ok, onList_ok, onTup_ok, onO_ok, onTab_ok, onAcc_ok, arg0_ok, arg1_ok, addV, ltV, atV, t_cache_put, b_cache_put, ret_then, e, tv_len, hdel, hl1, hl2, hl3, hcap', tv_put hk', beq_eq_false_iff_ne.mpr hlk, h'']
    · rw [if_neg hcap]
      simp [fm_succ, fn_succ, has_succ, fmI, fnI, blk_nil, blk_cons, next_then, ex_succ, exI, ts_succ, tsI, ev_succ, evI, ok_bind, exc_bind, bad_bind, List.lookup_cons, List.lookup_nil, cmpV, inV, eqV, eqD, freeze, upd, fzV, evs, fzs, truthV, atom_none, atom_bool, atom_int, atom_str, atom_tuple, atom_list, lenV, indexV, allI, anyI, binV, appI, iterI, evIt, condI, vals, Slot.kept, onInt_ok, onStr_ok, onList_ok, onTup_ok, onO_ok, onTab_ok, onAcc_ok, arg0_ok, arg1_ok, addV, ltV, atV, t_cache_put, b_cache_put, ret_then, h', tv_len, tv_del, hl, tv_put hk, hcap]
theorem cache_put_fast_ok (hc : 1 ≤ cap) (hn : (keys c).Nodup) (hl : c.length ≤ 1000) : (recN tbl consts (n+8)).fm "cache_put_fast" (tv c) [(.str k, f1), (.int v, f2), (.int cap, f3)] = .ok (((laid cap c k v).1, true), tv (laid cap c k v).2) := by
  unfold laid
  by_cases hk : k ∈ keys c
  · rw [if_pos hk]
    obtain ⟨u, hu⟩ : ∃ u, c.lookup k = some u := by cases q : c.lookup k with | none => exact absurd hk (lookup_keys.mp q) | some u => exact ⟨u, rfl⟩
    have h' : (tv c).lookup k = some (.int u) := by rw [tv_look, hu]; rfl
    have hl' : (off k c).length ≤ 1000 := Nat.le_trans (off_le _ _) hl
    simp [fm_succ, fn_succ, has_succ, fmI, fnI, blk_nil, blk_cons, next_then, ex_succ, exI, ts_succ, tsI, ev_succ, evI, ok_bind, exc_bind, bad_bind, List.lookup_cons, List.lookup_nil, cmpV, inV, eqV, eqD, freeze, upd, fzV, evs, fzs, truthV, atom_none, atom_bool, atom_int, atom_str, atom_tuple, atom_list, lenV, indexV, allI, anyI, binV, appI, iterI, evIt, condI, vals, Slot.kept, onInt_ok, onStr_ok, onList_ok, onTup_ok, onO_ok, onTab_ok, onAcc_ok, arg0_ok, arg1_ok, addV, ltV, atV, t_cache_put_fast, b_cache_put_fast, ret_then, h', tv_len, tv_del, hl, hl', tv_put (off_mem _ _)]
  · rw [if_neg hk]
    have h' : (tv c).lookup k = none := by rw [tv_look, lookup_keys.mpr hk]; rfl
    by_cases hcap : cap ≤ (c.length : Int)
    · rw [if_pos hcap]
      cases c with
      | nil => simp at hcap; omega
      | cons p c =>
        have hl1 : c.length ≤ 1000 := by simp at hl; omega
        have hl2 : c.length + 1 ≤ 1000 := by simpa using hl
        have hl3 : c.length ≤ 999 := by omega
        have hcap' : cap ≤ (c.length : Int) + 1 := by simpa using hcap
        have e : tv (p :: c) = (p.1, V.int p.2) :: tv c := rfl
        have hk' : k ∉ keys c := fun z => hk (List.mem_cons_of_mem _ z)
        have hp : p.1 ∉ keys c := (List.nodup_cons.mp hn).1
        have hdel : dictDel p.1 ((p.1, V.int p.2) :: tv c) = tv c := by
          rw [← e, tv_del]
          show tv (List.filter _ _) = _
          rw [List.filter_cons_of_neg (by simp)]
          exact congrArg tv (off_none hp)
        have hlk : k ≠ p.1 := fun z => hk (by rw [z]; exact .head _)
        have h'' : (tv c).lookup k = none := by rw [tv_look, lookup_keys.mpr hk']; rfl
        simp [fm_succ, fn_succ, has_succ, fmI, fnI, blk_nil, blk_cons, next_then, ex_succ, exI, ts_succ, tsI, ev_succ, evI, ok_bind, exc_bind, bad_bind, List.lookup_cons, List.lookup_nil, cmpV, inV, eqV, eqD, freeze, upd, fzV, evs, fzs, truthV, atom_none, atom_bool, atom_int, atom_str, atom_tuple, atom_list, lenV, indexV, allI, anyI, binV, appI, iterI, evIt, condI, vals, Slot.kept, onInt_ok, onStr_ok, onList_ok, onTup_ok, onO_ok, onTab_ok, onAcc_ok, arg0_ok, arg1_ok, addV, ltV, atV, t_cache_put_fast, b_cache_put_fast, ret_then, e, tv_len, hdel, hl1, hl2, hl3, hcap', tv_put hk', beq_eq_false_iff_ne.mpr hlk, h'']
    · rw [if_neg hcap]
      simp [fm_succ, fn_succ, has_succ, fmI, fnI, blk_nil, blk_cons, next_then, ex_succ, exI, ts_succ, tsI, ev_succ, evI, ok_bind, exc_bind, bad_bind, List.lookup_cons, List.lookup_nil, cmpV, inV, eqV, eqD, freeze, upd, fzV, evs, fzs, truthV, atom_none, atom_bool, atom_int, atom_str, atom_tuple, atom_list, lenV, indexV, allI, anyI, binV, appI, iterI, evIt, condI, vals, Slot.kept, onInt_ok, onStr_ok, onList_ok, onTup_ok, onO_ok, onTab_ok, onAcc_ok, arg0_ok, arg1_ok, addV, ltV, atV, t_cache_put_fast, b_cache_put_fast, ret_then, h', tv_len, tv_del, hl, tv_put hk, hcap]
end
end L5
end Mine
end

section
set_option Elab.async false
set_option linter.unusedSimpArgs false
namespace Mine
open PySem
/-- what comes behind a turn -/
noncomputable def afterL (r : Rec) (bnd : V × Bool → Frm → Res Frm) (body : List IS) (us : List (V × Bool)) (p : Fl × Frm) : Res (Fl × Frm) := match p.1 with
  | .next => loopG r bnd body p.2 us
  | .cont => loopG r bnd body p.2 us
  | .brk => .ok (.next, p.2)
  | .ret d f => .ok (.ret d f, p.2)
section
variable {r : Rec} {bnd : V × Bool → Frm → Res Frm} {body : List IS} {u : V × Bool} {us : List (V × Bool)} {φ : Frm}
theorem loopG_nil : loopG r bnd body φ [] = .ok (.next, φ) := rfl
theorem loopG_cons : loopG r bnd body φ (u :: us) = (bnd u φ).bind fun φ' => (blk r φ' body).bind (afterL r bnd body us) := rfl
theorem next_after : afterL r bnd body us (.next, φ) = loopG r bnd body φ us := rfl
theorem cont_after : afterL r bnd body us (.cont, φ) = loopG r bnd body φ us := rfl
theorem ret_after {d : V} {f : Bool} : afterL r bnd body us (.ret d f, φ) = .ok (.ret d f, φ) := rfl
end
section
variable {cap : Int} {c : Cch} {d : Deed}
theorem keys_snoc {k : PySem.Str} {v : Int} (hn : (keys c).Nodup) (hk : k ∉ keys c) : (keys (c ++ [(k, v)])).Nodup := by
  rw [keys_app]
  refine List.nodup_append.mpr ⟨hn, by simp [keys], ?_⟩
  intro a ha b hb
  simp only [keys, List.map_cons, List.map_nil, List.mem_singleton] at hb
  subst hb
  exact fun z => hk (z ▸ ha)
theorem keys_moved {k : PySem.Str} {v : Int} (hn : (keys c).Nodup) : (keys (off k c ++ [(k, v)])).Nodup :=
  keys_snoc (by rw [keys_off]; exact hn.filter _) (off_mem _ _)
theorem laid_nodup {k : PySem.Str} {v : Int} (hn : (keys c).Nodup) : (keys (laid cap c k v).2).Nodup := by
  unfold laid
  by_cases hk : k ∈ keys c
  · rw [if_pos hk]; exact keys_moved hn
  · rw [if_neg hk]
    by_cases hcap : cap ≤ (c.length : Int)
    · rw [if_pos hcap]
      cases c with
      | nil => simp [keys]
      | cons p c => exact keys_snoc (List.nodup_cons.mp hn).2 fun z => hk (List.mem_cons_of_mem _ z)
    · rw [if_neg hcap]; exact keys_snoc hn hk
theorem laid_len {k : PySem.Str} {v : Int} : (laid cap c k v).2.length ≤ c.length + 1 := by
  unfold laid
  have := off_le c k
  split
  · simp; omega
  · split
    · cases c with
      | nil => simp
      | cons p c => simp
    · simp
theorem stp_nodup (hn : (keys c).Nodup) : (keys (stp cap c d).2).Nodup := by
  unfold stp
  split
  · split
    · exact keys_moved hn
    · exact hn
  · exact laid_nodup hn
theorem stp_len : (stp cap c d).2.length ≤ c.length + 1 := by
  unfold stp
  have := off_le c d.key
  split
  · split
    · simp; omega
    · simp
  · exact laid_len
/-- an answer, what it can be -/
noncomputable def ansV : V → Prop
  | .none => True
  | .int _ => True
  | .str _ => True
  | _ => False
theorem laid_ans {k : PySem.Str} {v : Int} : ∃ x, (laid cap c k v).1 = .str x ∧ (x = PySem.Str.ofString "" ∨ x ∈ keys c) := by
  unfold laid
  split
  · exact ⟨_, rfl, .inl rfl⟩
  · split
    · cases c with
      | nil => exact ⟨_, rfl, .inl rfl⟩
      | cons p c => exact ⟨_, rfl, .inr (.head _)⟩
    · exact ⟨_, rfl, .inl rfl⟩
theorem stp_atom : (stp cap c d).1.atom = true := by
  unfold stp
  split
  · split <;> rfl
  · obtain ⟨x, e, _⟩ := laid_ans (cap := cap) (c := c) (k := d.key) (v := d.val); rw [e]; rfl
end
theorem run_cons {cap : Int} {c : Cch} {d : Deed} {ds : List Deed} : run cap c (d :: ds) = ((stp cap c d).1 :: (run cap (stp cap c d).2 ds).1, (run cap (stp cap c d).2 ds).2) := rfl
theorem run_len {cap : Int} {c : Cch} {ds : List Deed} : (run cap c ds).2.length ≤ c.length + ds.length := by
  induction ds generalizing c with
  | nil => exact Nat.le_refl _
  | cons d ds ih =>
    rw [run_cons]
    have := ih (c := (stp cap c d).2)
    have := stp_len (cap := cap) (c := c) (d := d)
    simp only [List.length_cons]; omega
theorem run_nodup {cap : Int} {c : Cch} {ds : List Deed} (h : (keys c).Nodup) : (keys (run cap c ds).2).Nodup := by
  induction ds generalizing c with
  | nil => exact h
  | cons d ds ih => rw [run_cons]; exact ih (stp_nodup h)
theorem get_ne : (PySem.Str.ofString "put" == PySem.Str.ofString "get") = false := by decide
namespace L5
open Mine
section
variable {n : Nat} {cap : Int} {f : Bool}
noncomputable def tb (put : String) : List IS := [.ite (.cmp .eq (.index (.var "op") (.const (.int 0))) (.const (.str (PySem.Str.ofString "get")))) [.appendMut "gave" "cache_get" "cache" [.index (.var "op") (.const (.int 1))]] [.appendMut "gave" put "cache" [.index (.var "op") (.const (.int 1)),
  .index (.var "op") (.const (.int 2)),
  .var "capacity"]]]
theorem loop_play {put : String} (hc : 1 ≤ cap) (hhas : (tbl put).isSome = true)
    (hput : ∀ {n : Nat} {c : Cch} {k : PySem.Str} {v : Int} {f1 f2 f3 : Bool}, (keys c).Nodup → c.length ≤ 1000 → (recN tbl consts (n+8)).fm put (tv c) [(.str k, f1), (.int v, f2), (.int cap, f3)] = .ok (((laid cap c k v).1, true), tv (laid cap c k v).2)) :
    ∀ (ds : List Deed) (φ : Frm) (c : Cch) (gave : List V), (keys c).Nodup → c.length + ds.length ≤ 900 → gave.length + ds.length ≤ 900 → φ.lookup "cache" = some (.tab (tv c)) → φ.lookup "gave" = some (.acc gave) → φ.lookup "capacity" = some (.val (.int cap) f) →
    ∃ φ', loopG (recN tbl consts (n+20)) (bnd1 "op") (tb put) φ (ds.map fun d => (deedV d, true)) = .ok (.next, φ') ∧ φ'.lookup "cache" = some (.tab (tv (run cap c ds).2)) ∧ φ'.lookup "gave" = some (.acc (gave ++ (run cap c ds).1)) := by
  intro v0
  induction v0 with
  | nil => intro φ c gave _ _ _ h1 h2 _; exact ⟨φ, rfl, h1, by rw [h2]; simp [run]⟩
  | cons d ds ih =>
    intro φ c gave hn hl hg h1 h2 h3
    have hl' : c.length ≤ 1000 := by omega
    have hgl : gave.length < lim := by unfold lim; omega
    have hlen := stp_len (cap := cap) (c := c) (d := d)
    have hat := stp_atom (cap := cap) (c := c) (d := d)
    obtain ⟨φ', q1, q2, q3⟩ := ih (upd "gave" (.acc (gave ++ [(stp cap c d).1])) (upd "cache" (.tab (tv (stp cap c d).2)) (upd "op" (.val (deedV d) true) φ))) (stp cap c d).2 (gave ++ [(stp cap c d).1]) (stp_nodup hn) (by simp at hl; omega) (by simp at hg ⊢; omega)
      (by simp [upd_lookup]) (by simp [upd_lookup]) (by simp [upd_lookup, h3])
    refine ⟨φ', ?_, ?_, ?_⟩
    · rw [List.map_cons]
      rw [← q1]
      cases hd : d.get with
      | true =>
        have hget := cache_get_ok (n := n + 10) (cap := cap) (c := c) (f := true) d hd hl'
        simp [has_succ, blk_nil, blk_cons, next_then, ex_succ, exI, ts_succ, tsI, ev_succ, evI, ok_bind, exc_bind, bad_bind, upd_lookup, cmpV, inV, eqV, eqD, fzV, evs, fzs, truthV, atom_none, atom_bool, atom_int, atom_str, atom_tuple, atom_list, lenV, indexV, allI, anyI, binV, appI, iterI, evIt, condI, bnd1, bndN, loopG_nil, loopG_cons, next_after, cont_after, onInt_ok, onStr_ok, onList_ok, onTup_ok, onO_ok, onTab_ok, onAcc_ok, arg0_ok, arg1_ok, addV, ltV, atV, tb, h1, h2, h3, deedV, hd, t_cache_get, hget, hgl, hat]
      | false =>
        have e : stp cap c d = laid cap c d.key d.val := by unfold stp; rw [hd]; rfl
        rw [e] at hat ⊢
        have hget := hput (n := n + 10) (c := c) (k := d.key) (v := d.val) (f1 := true) (f2 := true) (f3 := f) hn hl'
        simp [has_succ, blk_nil, blk_cons, next_then, ex_succ, exI, ts_succ, tsI, ev_succ, evI, ok_bind, exc_bind, bad_bind, upd_lookup, cmpV, inV, eqV, eqD, fzV, evs, fzs, truthV, atom_none, atom_bool, atom_int, atom_str, atom_tuple, atom_list, lenV, indexV, allI, anyI, binV, appI, iterI, evIt, condI, bnd1, bndN, loopG_nil, loopG_cons, next_after, cont_after, onInt_ok, onStr_ok, onList_ok, onTup_ok, onO_ok, onTab_ok, onAcc_ok, arg0_ok, arg1_ok, addV, ltV, atV, tb, h1, h2, h3, deedV, hd, hhas, hget, hgl, hat, get_ne]
    · rw [run_cons]; exact q2
    · rw [run_cons, q3]; simp
theorem t_play_cache : tbl "play_cache" = some (["ops", "capacity"], b_play_cache) := rfl
theorem t_play_cache_fast : tbl "play_cache_fast" = some (["ops", "capacity"], b_play_cache_fast) := rfl
noncomputable def outV (cap : Int) (ds : List Deed) : V := .tuple [.list (run cap [] ds).1, .list ((run cap [] ds).2.map pairV)]
theorem tv_items (c : Cch) : (tv c).map (fun p => V.tuple [.str p.1, p.2]) = c.map pairV := by
  unfold tv; rw [List.map_map]; rfl
theorem play_any {put name : String} (hc : 1 ≤ cap) (hhas : (tbl put).isSome = true)
    (hput : ∀ {n : Nat} {c : Cch} {k : PySem.Str} {v : Int} {f1 f2 f3 : Bool}, (keys c).Nodup → c.length ≤ 1000 → (recN tbl consts (n+8)).fm put (tv c) [(.str k, f1), (.int v, f2), (.int cap, f3)] = .ok (((laid cap c k v).1, true), tv (laid cap c k v).2))
    (hb : tbl name = some (["ops", "capacity"], [.newTab "cache", .newAcc "gave", .for1 "op" (.plain (.var "ops")) (tb put), .ret (.tuple [.var "gave", .items "cache"])]))
    (ds : List Deed) (hl : ds.length ≤ 900) : (recN tbl consts (n + 22)).fn name [(.list (ds.map deedV), true), (.int cap, f)] = .ok (outV cap ds, true) := by
  obtain ⟨φ', q1, q2, q3⟩ := loop_play (n := n) (f := f) hc hhas hput ds [("ops", .val (.list (ds.map deedV)) true), ("capacity", .val (.int cap) f), ("cache", .tab []), ("gave", .acc [])] [] [] (by simp [keys]) (by simpa using hl) (by simpa using hl)
    rfl rfl rfl
  have e : ((ds.map deedV).map fun d => (d, true)) = ds.map fun d => (deedV d, true) := by rw [List.map_map]; rfl
  have hr' : (run cap [] ds).2.length ≤ 1000 := by have := run_len (cap := cap) (c := []) (ds := ds); simp at this; omega
  simp [fn_succ, fnI, hb, has_succ, blk_nil, blk_cons, next_then, ex_succ, exI, ts_succ, tsI, ev_succ, evI, ok_bind, exc_bind, bad_bind, upd_lookup, cmpV, inV, eqV, eqD, fzV, evs, fzs, truthV, atom_none, atom_bool, atom_int, atom_str, atom_tuple, atom_list, lenV, indexV, allI, anyI, binV, appI, iterI, evIt, condI, bnd1, bndN, loopG_nil, loopG_cons, next_after, cont_after, onInt_ok, onStr_ok, onList_ok, onTup_ok, onO_ok, onTab_ok, onAcc_ok, arg0_ok, arg1_ok, addV, ltV, atV, upd, List.lookup_cons, e, q1, q2, q3, freeze_lookup, frz, ret_then, tv_len, hr', lim, tv_items, outV]
theorem play_cache_ok (hc : 1 ≤ cap) (ds : List Deed) (hl : ds.length ≤ 900) : (recN tbl consts (n + 22)).fn "play_cache" [(.list (ds.map deedV), true), (.int cap, f)] = .ok (outV cap ds, true) :=
  play_any hc rfl (fun hn hl => cache_put_ok hc hn hl) rfl ds hl
theorem play_cache_fast_ok (hc : 1 ≤ cap) (ds : List Deed) (hl : ds.length ≤ 900) : (recN tbl consts (n + 22)).fn "play_cache_fast" [(.list (ds.map deedV), true), (.int cap, f)] = .ok (outV cap ds, true) :=
  play_any hc rfl (fun hn hl => cache_put_fast_ok hc hn hl) rfl ds hl
end
end L5
end Mine
end

section
set_option Elab.async false
set_option linter.unusedSimpArgs false
namespace Mine
open PySem
section
variable {cap : Int} {c : Cch} {d : Deed}
theorem laid_cap {k : PySem.Str} {v : Int} (hc : 1 ≤ cap) (hn : (keys c).Nodup) (h : (c.length : Int) ≤ cap) : ((laid cap c k v).2.length : Int) ≤ cap := by
  unfold laid
  by_cases hk : k ∈ keys c
  · rw [if_pos hk]
    have := off_len hn hk
    simp; omega
  · rw [if_neg hk]
    by_cases hcap : cap ≤ (c.length : Int)
    · rw [if_pos hcap]
      cases c with
      | nil => simp; omega
      | cons p c => simp at h ⊢; omega
    · rw [if_neg hcap]; simp; omega
theorem stp_cap (hc : 1 ≤ cap) (hn : (keys c).Nodup) (h : (c.length : Int) ≤ cap) : ((stp cap c d).2.length : Int) ≤ cap := by
  unfold stp
  split
  · split
    · rename_i v hv
      have hk : d.key ∈ keys c := by
        by_cases q : d.key ∈ keys c
        · exact q
        · rw [lookup_keys.mpr q] at hv; cases hv
      have := off_len hn hk
      simp; omega
    · exact h
  · exact laid_cap hc hn h
end
/-- a list made by filtering -/
theorem compI_nil {r : Rec} {φ : Frm} {e : IE} {x : String} {cond : Option TE} : compI r φ e x cond [] = .ok [] := rfl
theorem compI_yes {r : Rec} {φ : Frm} {elt : IE} {x : String} {cond : Option TE} {u : V × Bool} {us : List (V × Bool)} {e : V} (hc : condI r (upd x (.val u.1 u.2) φ) cond = .ok true) (he : (r.ev (upd x (.val u.1 u.2) φ) elt).bind fzV = .ok e) :
    compI r φ elt x cond (u :: us) = (compI r φ elt x cond us).bind fun es => .ok (e :: es) := by
  conv => lhs; unfold compI
  rw [hc]
  dsimp only
  rw [he]
theorem compI_no {r : Rec} {φ : Frm} {elt : IE} {x : String} {cond : Option TE} {u : V × Bool} {us : List (V × Bool)} (hc : condI r (upd x (.val u.1 u.2) φ) cond = .ok false) : compI r φ elt x cond (u :: us) = compI r φ elt x cond us := by
  conv => lhs; unfold compI
  rw [hc]
section
variable {tbl : Tbl} {consts : String → Option V} {n : Nat} {ψ : Frm} {x key : String} {k : PySem.Str} {fk : Bool}
theorem comp_eq (hk : ψ.lookup key = some (.val (.str k) fk)) (hx : key ≠ x) : ∀ l : Cch, compI (recN tbl consts (n+6)) ψ (.var x) x (some (.cmp .eq (.index (.var x) (.const (.int 0))) (.var key))) (l.map fun p => (pairV p, true)) = .ok ((l.filter fun p => p.1 = k).map pairV) := by
  intro v0
  induction v0 with
  | nil => exact rfl
  | cons p l ih =>
    have ih := ih
    rw [List.map_cons]
    by_cases e : p.1 = k
    · rw [compI_yes (e := pairV p) (by simp [has_succ, blk_nil, blk_cons, next_then, ex_succ, exI, ts_succ, tsI, ev_succ, evI, ok_bind, exc_bind, bad_bind, upd_lookup, cmpV, inV, eqV, eqD, fzV, evs, fzs, truthV, atom_none, atom_bool, atom_int, atom_str, atom_tuple, atom_list, lenV, indexV, allI, anyI, binV, appI, iterI, evIt, condI, bnd1, bndN, loopG_nil, loopG_cons, next_after, cont_after, onInt_ok, onStr_ok, onList_ok, onTup_ok, onO_ok, onTab_ok, onAcc_ok, arg0_ok, arg1_ok, addV, ltV, atV, pairV, hk, hx, e]) (by simp [has_succ, blk_nil, blk_cons, next_then, ex_succ, exI, ts_succ, tsI, ev_succ, evI, ok_bind, exc_bind, bad_bind, upd_lookup, cmpV, inV, eqV, eqD, fzV, evs, fzs, truthV, atom_none, atom_bool, atom_int, atom_str, atom_tuple, atom_list, lenV, indexV, allI, anyI, binV, appI, iterI, evIt, condI, bnd1, bndN, loopG_nil, loopG_cons, next_after, cont_after, onInt_ok, onStr_ok, onList_ok, onTup_ok, onO_ok, onTab_ok, onAcc_ok, arg0_ok, arg1_ok, addV, ltV, atV]), ih, List.filter_cons_of_pos (by simpa using e)]; rfl
    · rw [compI_no (by simp [has_succ, blk_nil, blk_cons, next_then, ex_succ, exI, ts_succ, tsI, ev_succ, evI, ok_bind, exc_bind, bad_bind, upd_lookup, cmpV, inV, eqV, eqD, fzV, evs, fzs, truthV, atom_none, atom_bool, atom_int, atom_str, atom_tuple, atom_list, lenV, indexV, allI, anyI, binV, appI, iterI, evIt, condI, bnd1, bndN, loopG_nil, loopG_cons, next_after, cont_after, onInt_ok, onStr_ok, onList_ok, onTup_ok, onO_ok, onTab_ok, onAcc_ok, arg0_ok, arg1_ok, addV, ltV, atV, pairV, hk, hx, beq_eq_false_iff_ne.mpr e]), ih, List.filter_cons_of_neg (by simpa using e)]
theorem comp_ne (hk : ψ.lookup key = some (.val (.str k) fk)) (hx : key ≠ x) : ∀ l : Cch, compI (recN tbl consts (n+6)) ψ (.var x) x (some (.cmp .ne (.index (.var x) (.const (.int 0))) (.var key))) (l.map fun p => (pairV p, true)) = .ok ((off k l).map pairV) := by
  intro v0
  induction v0 with
  | nil => exact rfl
  | cons p l ih =>
    have ih := ih
    rw [List.map_cons]
    unfold off at ih ⊢
    by_cases e : p.1 = k
    · rw [compI_no (by simp [has_succ, blk_nil, blk_cons, next_then, ex_succ, exI, ts_succ, tsI, ev_succ, evI, ok_bind, exc_bind, bad_bind, upd_lookup, cmpV, inV, eqV, eqD, fzV, evs, fzs, truthV, atom_none, atom_bool, atom_int, atom_str, atom_tuple, atom_list, lenV, indexV, allI, anyI, binV, appI, iterI, evIt, condI, bnd1, bndN, loopG_nil, loopG_cons, next_after, cont_after, onInt_ok, onStr_ok, onList_ok, onTup_ok, onO_ok, onTab_ok, onAcc_ok, arg0_ok, arg1_ok, addV, ltV, atV, pairV, hk, hx, e]), ih, List.filter_cons_of_neg (by simpa using e)]
    · rw [compI_yes (e := pairV p) (by simp [has_succ, blk_nil, blk_cons, next_then, ex_succ, exI, ts_succ, tsI, ev_succ, evI, ok_bind, exc_bind, bad_bind, upd_lookup, cmpV, inV, eqV, eqD, fzV, evs, fzs, truthV, atom_none, atom_bool, atom_int, atom_str, atom_tuple, atom_list, lenV, indexV, allI, anyI, binV, appI, iterI, evIt, condI, bnd1, bndN, loopG_nil, loopG_cons, next_after, cont_after, onInt_ok, onStr_ok, onList_ok, onTup_ok, onO_ok, onTab_ok, onAcc_ok, arg0_ok, arg1_ok, addV, ltV, atV, pairV, hk, hx, beq_eq_false_iff_ne.mpr e]) (by simp [has_succ, blk_nil, blk_cons, next_then, ex_succ, exI, ts_succ, tsI, ev_succ, evI, ok_bind, exc_bind, bad_bind, upd_lookup, cmpV, inV, eqV, eqD, fzV, evs, fzs, truthV, atom_none, atom_bool, atom_int, atom_str, atom_tuple, atom_list, lenV, indexV, allI, anyI, binV, appI, iterI, evIt, condI, bnd1, bndN, loopG_nil, loopG_cons, next_after, cont_after, onInt_ok, onStr_ok, onList_ok, onTup_ok, onO_ok, onTab_ok, onAcc_ok, arg0_ok, arg1_ok, addV, ltV, atV]), ih, List.filter_cons_of_pos (by simpa using e)]; rfl
end
theorem pairV_mk {a : PySem.Str} {b : Int} : pairV (a, b) = .tuple [.str a, .int b] := rfl
theorem pairs_flag (c : Cch) : c.map ((fun d => (d, true)) ∘ pairV) = c.map fun p => (pairV p, true) := rfl
namespace L5
open Mine
section
variable {n : Nat} {cap : Int} {f fk fv : Bool} {c : Cch}
theorem t_plain_get : tbl "plain_get" = some (["pairs", "key"], b_plain_get) := rfl
theorem t_plain_put : tbl "plain_put" = some (["pairs", "key", "value", "capacity"], b_plain_put) := rfl
theorem t_play_model : tbl "play_model" = some (["ops", "capacity"], b_play_model) := rfl
theorem plain_get_ok (d : Deed) (hd : d.get = true) (hn : (keys c).Nodup) (hl : c.length ≤ 1000) (hs : PyData.strOk d.key = true) : (recN tbl consts (n+12)).fn "plain_get" [(.list (c.map pairV), true), (.str d.key, fk)] = .ok (.tuple [.list ((stp cap c d).2.map pairV), (stp cap c d).1], true) := by
  have hlim : c.length ≤ 1000000 := by omega
  have q1 := comp_eq (tbl := tbl) (consts := consts) (n := n + 3) (ψ := vals [("pairs", .val (.list (c.map pairV)) true), ("key", .val (.str d.key) fk)]) (x := "pair") (key := "key") (k := d.key) (fk := fk) rfl (by decide) c
  have q2 : ∀ hits, compI (recN tbl consts (n+9)) (vals [("pairs", .val (.list (c.map pairV)) true), ("key", .val (.str d.key) fk), ("hits", .val hits true)]) (.var "pair") "pair" (some (.cmp .ne (.index (.var "pair") (.const (.int 0))) (.var "key"))) (c.map fun p => (pairV p, true)) = .ok ((off d.key c).map pairV) := fun hits => comp_ne (n := n + 3) rfl (by decide) c
  have q1' : compI (recN tbl consts (n+9)) (vals [("pairs", .val (.list (c.map pairV)) true), ("key", .val (.str d.key) fk)]) (.var "pair") "pair" (some (.cmp .eq (.index (.var "pair") (.const (.int 0))) (.var "key"))) (c.map fun p => (pairV p, true)) = .ok ((c.filter fun p => p.1 = d.key).map pairV) := q1
  unfold stp
  rw [if_pos hd]
  cases h : c.lookup d.key with
  | none =>
    have hk := lookup_keys.mp h
    have e0 : c.filter (fun p => p.1 = d.key) = [] := List.filter_eq_nil_iff.mpr fun p hp => by simpa using fun z => hk (List.mem_map.mpr ⟨p, hp, z⟩)
    rw [e0] at q1'
    rw [off_none hk] at q2
    have sh : SeqAt.shaped (.list []) = true := by decide
    simp [fn_succ, fnI, t_plain_get, b_plain_get, has_succ, blk_nil, blk_cons, next_then, ex_succ, exI, ts_succ, tsI, ev_succ, evI, ok_bind, exc_bind, bad_bind, upd_lookup, cmpV, inV, eqV, eqD, fzV, evs, fzs, truthV, atom_none, atom_bool, atom_int, atom_str, atom_tuple, atom_list, lenV, indexV, allI, anyI, binV, appI, iterI, evIt, condI, bnd1, bndN, loopG_nil, loopG_cons, next_after, cont_after, onInt_ok, onStr_ok, onList_ok, onTup_ok, onO_ok, onTab_ok, onAcc_ok, arg0_ok, arg1_ok, addV, ltV, atV, upd, List.lookup_cons, freeze, q1', q2, ret_then, pairs_flag, It.simple, hlim, V.pys, sh, PyData.eqv, PyData.eqvAll, lim]
  | some v =>
    rw [hits_one hn h] at q1'
    have hl' : (off d.key c).length ≤ 999999 := by have := off_le c d.key; omega
    have sh : SeqAt.shaped (.list []) = true := by decide
    have sh2 : SeqAt.shaped (.list [.tuple [.str d.key, .int v]]) = true := by
      unfold SeqAt.shaped
      simp [PyData.canLay0, PyData.canLayAll0, hs, PyData.depth, PyData.depthAll]
    simp [fn_succ, fnI, t_plain_get, b_plain_get, has_succ, blk_nil, blk_cons, next_then, ex_succ, exI, ts_succ, tsI, ev_succ, evI, ok_bind, exc_bind, bad_bind, upd_lookup, cmpV, inV, eqV, eqD, fzV, evs, fzs, truthV, atom_none, atom_bool, atom_int, atom_str, atom_tuple, atom_list, lenV, indexV, allI, anyI, binV, appI, iterI, evIt, condI, bnd1, bndN, loopG_nil, loopG_cons, next_after, cont_after, onInt_ok, onStr_ok, onList_ok, onTup_ok, onO_ok, onTab_ok, onAcc_ok, arg0_ok, arg1_ok, addV, ltV, atV, upd, List.lookup_cons, freeze, q1', q2, ret_then, pairs_flag, It.simple, hlim, V.pys, V.py, sh, sh2, PyData.eqv, PyData.eqvAll, lim, pairV_mk, hl']
theorem plain_put_ok {k : PySem.Str} {v : Int} (hc : 1 ≤ cap) (hn : (keys c).Nodup) (hl : c.length ≤ 1000) (hcl : (c.length : Int) ≤ cap) : (recN tbl consts (n+12)).fn "plain_put" [(.list (c.map pairV), true), (.str k, fk), (.int v, fv), (.int cap, f)] = .ok (.tuple [.list ((laid cap c k v).2.map pairV), (laid cap c k v).1], true) := by
  have hlim : c.length ≤ 1000000 := by omega
  have q2 : compI (recN tbl consts (n+9)) (vals [("pairs", .val (.list (c.map pairV)) true), ("key", .val (.str k) fk), ("value", .val (.int v) fv), ("capacity", .val (.int cap) f)]) (.var "pair") "pair" (some (.cmp .ne (.index (.var "pair") (.const (.int 0))) (.var "key"))) (c.map fun p => (pairV p, true)) = .ok ((off k c).map pairV) := comp_ne (n := n + 3) rfl (by decide) c
  unfold laid
  by_cases hk : k ∈ keys c
  · rw [if_pos hk]
    have hol := off_len hn hk
    have hl' : (off k c).length ≤ 999999 := by omega
    have hlt : ¬ cap ≤ ((off k c).length : Int) := by omega
    simp [fn_succ, fnI, t_plain_put, b_plain_put, has_succ, blk_nil, blk_cons, next_then, ex_succ, exI, ts_succ, tsI, ev_succ, evI, ok_bind, exc_bind, bad_bind, upd_lookup, cmpV, inV, eqV, eqD, fzV, evs, fzs, truthV, atom_none, atom_bool, atom_int, atom_str, atom_tuple, atom_list, lenV, indexV, allI, anyI, binV, appI, iterI, evIt, condI, bnd1, bndN, loopG_nil, loopG_cons, next_after, cont_after, onInt_ok, onStr_ok, onList_ok, onTup_ok, onO_ok, onTab_ok, onAcc_ok, arg0_ok, arg1_ok, addV, ltV, atV, upd, List.lookup_cons, freeze, q2, ret_then, pairs_flag, It.simple, hlim, lim, pairV_mk, hl', hlt]
  · rw [if_neg hk]
    rw [off_none hk] at q2
    have hl' : c.length ≤ 999999 := by omega
    by_cases hcap : cap ≤ (c.length : Int)
    · rw [if_pos hcap]
      cases c with
      | nil => simp at hcap; omega
      | cons p c =>
        obtain ⟨a, b⟩ := p
        have hl2 : c.length ≤ 999999 := by simp at hl; omega
        have hcap' : cap ≤ (c.length : Int) + 1 := by simpa using hcap
        simp only [List.map_cons, pairV_mk] at q2
        simp [fn_succ, fnI, t_plain_put, b_plain_put, has_succ, blk_nil, blk_cons, next_then, ex_succ, exI, ts_succ, tsI, ev_succ, evI, ok_bind, exc_bind, bad_bind, upd_lookup, cmpV, inV, eqV, eqD, fzV, evs, fzs, truthV, atom_none, atom_bool, atom_int, atom_str, atom_tuple, atom_list, lenV, indexV, allI, anyI, binV, appI, iterI, evIt, condI, bnd1, bndN, loopG_nil, loopG_cons, next_after, cont_after, onInt_ok, onStr_ok, onList_ok, onTup_ok, onO_ok, onTab_ok, onAcc_ok, arg0_ok, arg1_ok, addV, ltV, atV, upd, List.lookup_cons, freeze, q2, ret_then, pairs_flag, It.simple, hlim, lim, pairV_mk, hl', hl2, hcap']
    · rw [if_neg hcap]
      simp [fn_succ, fnI, t_plain_put, b_plain_put, has_succ, blk_nil, blk_cons, next_then, ex_succ, exI, ts_succ, tsI, ev_succ, evI, ok_bind, exc_bind, bad_bind, upd_lookup, cmpV, inV, eqV, eqD, fzV, evs, fzs, truthV, atom_none, atom_bool, atom_int, atom_str, atom_tuple, atom_list, lenV, indexV, allI, anyI, binV, appI, iterI, evIt, condI, bnd1, bndN, loopG_nil, loopG_cons, next_after, cont_after, onInt_ok, onStr_ok, onList_ok, onTup_ok, onO_ok, onTab_ok, onAcc_ok, arg0_ok, arg1_ok, addV, ltV, atV, upd, List.lookup_cons, freeze, q2, ret_then, pairs_flag, It.simple, hlim, lim, pairV_mk, hl', hcap]
end
end L5
end Mine
end

section
set_option Elab.async false
set_option linter.unusedSimpArgs false
namespace Mine
open PySem
namespace L5
open Mine
section
variable {n : Nat} {cap : Int} {f : Bool}
noncomputable def mb : List IS := [.ite (.cmp .eq (.index (.var "op") (.const (.int 0))) (.const (.str (PySem.Str.ofString "get")))) [.unpack ["pairs", "answer"] (.call "plain_get" [.var "pairs",
  .index (.var "op") (.const (.int 1))])] [.unpack ["pairs", "answer"] (.call "plain_put" [.var "pairs",
  .index (.var "op") (.const (.int 1)),
  .index (.var "op") (.const (.int 2)),
  .var "capacity"])],
  .append "gave" (.var "answer")]
theorem loop_model (hc : 1 ≤ cap) : ∀ (ds : List Deed) (φ : Frm) (c : Cch) (gave : List V), (∀ d ∈ ds, PyData.strOk d.key = true) → (keys c).Nodup → (c.length : Int) ≤ cap → c.length + ds.length ≤ 900 → gave.length + ds.length ≤ 900 → φ.lookup "pairs" = some (.val (.list (c.map pairV)) true) → φ.lookup "gave" = some (.acc gave) → φ.lookup "capacity" = some (.val (.int cap) f) →
    ∃ φ', loopG (recN tbl consts (n+20)) (bnd1 "op") mb φ (ds.map fun d => (deedV d, true)) = .ok (.next, φ') ∧ φ'.lookup "pairs" = some (.val (.list ((run cap c ds).2.map pairV)) true) ∧ φ'.lookup "gave" = some (.acc (gave ++ (run cap c ds).1)) := by
  intro v0
  induction v0 with
  | nil => intro φ c gave _ _ _ _ _ h1 h2 _; exact ⟨φ, rfl, h1, by rw [h2]; simp [run]⟩
  | cons d ds ih =>
    intro φ c gave hs hn hcl hl hg h1 h2 h3
    have hl' : c.length ≤ 1000 := by omega
    have hgl : gave.length < lim := by unfold lim; omega
    have hlen := stp_len (cap := cap) (c := c) (d := d)
    have hat := stp_atom (cap := cap) (c := c) (d := d)
    obtain ⟨φ', q1, q2, q3⟩ := ih (upd "gave" (.acc (gave ++ [(stp cap c d).1])) (upd "answer" (.val (stp cap c d).1 true) (upd "pairs" (.val (.list ((stp cap c d).2.map pairV)) true) (upd "op" (.val (deedV d) true) φ)))) (stp cap c d).2 (gave ++ [(stp cap c d).1]) (fun d hd => hs d (.tail _ hd)) (stp_nodup hn) (stp_cap hc hn hcl) (by simp at hl; omega) (by simp at hg ⊢; omega)
      (by simp [upd_lookup]) (by simp [upd_lookup]) (by simp [upd_lookup, h3])
    refine ⟨φ', ?_, ?_, ?_⟩
    · rw [List.map_cons]
      rw [← q1]
      cases hd : d.get with
      | true =>
        have hget := plain_get_ok (n := n + 5) (cap := cap) (c := c) (fk := true) d hd hn hl' (hs d (.head _))
        simp [has_succ, blk_nil, blk_cons, next_then, ex_succ, exI, ts_succ, tsI, ev_succ, evI, ok_bind, exc_bind, bad_bind, upd_lookup, cmpV, inV, eqV, eqD, fzV, evs, fzs, truthV, atom_none, atom_bool, atom_int, atom_str, atom_tuple, atom_list, lenV, indexV, allI, anyI, binV, appI, iterI, evIt, condI, bnd1, bndN, loopG_nil, loopG_cons, next_after, cont_after, onInt_ok, onStr_ok, onList_ok, onTup_ok, onO_ok, onTab_ok, onAcc_ok, arg0_ok, arg1_ok, addV, ltV, atV, mb, h1, h2, h3, deedV, hd, t_plain_get, hget, hgl, hat, updAll]
      | false =>
        have e : stp cap c d = laid cap c d.key d.val := by unfold stp; rw [hd]; rfl
        rw [e] at hat ⊢
        have hget := plain_put_ok (n := n + 5) (cap := cap) (c := c) (k := d.key) (v := d.val) (fk := true) (fv := true) (f := f) hc hn hl' hcl
        simp [has_succ, blk_nil, blk_cons, next_then, ex_succ, exI, ts_succ, tsI, ev_succ, evI, ok_bind, exc_bind, bad_bind, upd_lookup, cmpV, inV, eqV, eqD, fzV, evs, fzs, truthV, atom_none, atom_bool, atom_int, atom_str, atom_tuple, atom_list, lenV, indexV, allI, anyI, binV, appI, iterI, evIt, condI, bnd1, bndN, loopG_nil, loopG_cons, next_after, cont_after, onInt_ok, onStr_ok, onList_ok, onTup_ok, onO_ok, onTab_ok, onAcc_ok, arg0_ok, arg1_ok, addV, ltV, atV, mb, h1, h2, h3, deedV, hd, t_plain_put, hget, hgl, hat, get_ne, updAll]
    · rw [run_cons]; exact q2
    · rw [run_cons, q3]; simp
theorem play_model_ok (hc : 1 ≤ cap) (ds : List Deed) (hs : ∀ d ∈ ds, PyData.strOk d.key = true) (hl : ds.length ≤ 900) : (recN tbl consts (n + 22)).fn "play_model" [(.list (ds.map deedV), true), (.int cap, f)] = .ok (outV cap ds, true) := by
  obtain ⟨φ', q1, q2, q3⟩ := loop_model (n := n) (f := f) hc ds [("ops", .val (.list (ds.map deedV)) true), ("capacity", .val (.int cap) f), ("pairs", .val (.list []) true), ("gave", .acc [])] [] [] hs (by simp [keys]) (by simp; omega) (by simpa using hl) (by simpa using hl)
    rfl rfl rfl
  have e : ds.map ((fun d => (d, true)) ∘ deedV) = ds.map fun d => (deedV d, true) := rfl
  have hb : b_play_model = [.assign "pairs" (.list []), .newAcc "gave", .for1 "op" (.plain (.var "ops")) mb, .ret (.tuple [.var "gave", .var "pairs"])] := rfl
  simp [fn_succ, fnI, t_play_model, hb, has_succ, blk_nil, blk_cons, next_then, ex_succ, exI, ts_succ, tsI, ev_succ, evI, ok_bind, exc_bind, bad_bind, upd_lookup, cmpV, inV, eqV, eqD, fzV, evs, fzs, truthV, atom_none, atom_bool, atom_int, atom_str, atom_tuple, atom_list, lenV, indexV, allI, anyI, binV, appI, iterI, evIt, condI, bnd1, bndN, loopG_nil, loopG_cons, next_after, cont_after, onInt_ok, onStr_ok, onList_ok, onTup_ok, onO_ok, onTab_ok, onAcc_ok, arg0_ok, arg1_ok, addV, ltV, atV, upd, List.lookup_cons, e, q1, q2, q3, freeze_lookup, frz, ret_then, lim, outV]
end
end L5
end Mine
end

section
set_option Elab.async false
set_option linter.unusedSimpArgs false
namespace Mine
open PySem
theorem strsOf_map : ∀ ks : List PySem.Str, strsOf (ks.map V.str) = some ks
  | [] => rfl
  | k :: ks => by show (strsOf (ks.map V.str)).map (k :: ·) = _; rw [strsOf_map ks]; rfl
theorem any_key {ks : List PySem.Str} {k : PySem.Str} : (ks.any (· == k)) = decide (k ∈ ks) := by
  induction ks with
  | nil => rfl
  | cons a ks ih => rw [List.any_cons, ih]; by_cases e : a = k
                    · subst e; simp
                    · simp [e, beq_eq_false_iff_ne.mpr e, Ne.symm e]
section
variable {tbl : Tbl} {consts : String → Option V} {n : Nat} {ψ : Frm} {x : String}
theorem comp_keys : ∀ l : Cch, compI (recN tbl consts (n+6)) ψ (.index (.var x) (.const (.int 0))) x none (l.map fun p => (pairV p, true)) = .ok ((keys l).map V.str) := by
  intro v0
  induction v0 with
  | nil => exact rfl
  | cons p l ih =>
    rw [List.map_cons, compI_yes (e := .str p.1) (by simp [has_succ, blk_nil, blk_cons, next_then, ex_succ, exI, ts_succ, tsI, ev_succ, evI, ok_bind, exc_bind, bad_bind, upd_lookup, cmpV, inV, eqV, eqD, fzV, evs, fzs, truthV, atom_none, atom_bool, atom_int, atom_str, atom_tuple, atom_list, lenV, indexV, allI, anyI, binV, appI, iterI, evIt, condI, bnd1, bndN, loopG_nil, loopG_cons, next_after, cont_after, onInt_ok, onStr_ok, onList_ok, onTup_ok, onO_ok, onTab_ok, onAcc_ok, arg0_ok, arg1_ok, addV, ltV, atV]) (by simp [has_succ, blk_nil, blk_cons, next_then, ex_succ, exI, ts_succ, tsI, ev_succ, evI, ok_bind, exc_bind, bad_bind, upd_lookup, cmpV, inV, eqV, eqD, fzV, evs, fzs, truthV, atom_none, atom_bool, atom_int, atom_str, atom_tuple, atom_list, lenV, indexV, allI, anyI, binV, appI, iterI, evIt, condI, bnd1, bndN, loopG_nil, loopG_cons, next_after, cont_after, onInt_ok, onStr_ok, onList_ok, onTup_ok, onO_ok, onTab_ok, onAcc_ok, arg0_ok, arg1_ok, addV, ltV, atV, pairV]), ih]; rfl
theorem comp_eq2 {d : Deed} {deed : String} {fd : Bool} (hk : ψ.lookup deed = some (.val (deedV d) fd)) (hx : deed ≠ x) : ∀ l : Cch, compI (recN tbl consts (n+6)) ψ (.var x) x (some (.cmp .eq (.index (.var x) (.const (.int 0))) (.index (.var deed) (.const (.int 1))))) (l.map fun p => (pairV p, true)) = .ok ((l.filter fun p => p.1 = d.key).map pairV) := by
  intro v0
  induction v0 with
  | nil => exact rfl
  | cons p l ih =>
    have ih := ih
    rw [List.map_cons]
    by_cases e : p.1 = d.key
    · rw [compI_yes (e := pairV p) (by simp [has_succ, blk_nil, blk_cons, next_then, ex_succ, exI, ts_succ, tsI, ev_succ, evI, ok_bind, exc_bind, bad_bind, upd_lookup, cmpV, inV, eqV, eqD, fzV, evs, fzs, truthV, atom_none, atom_bool, atom_int, atom_str, atom_tuple, atom_list, lenV, indexV, allI, anyI, binV, appI, iterI, evIt, condI, bnd1, bndN, loopG_nil, loopG_cons, next_after, cont_after, onInt_ok, onStr_ok, onList_ok, onTup_ok, onO_ok, onTab_ok, onAcc_ok, arg0_ok, arg1_ok, addV, ltV, atV, pairV, hk, hx, e, deedV]) (by simp [has_succ, blk_nil, blk_cons, next_then, ex_succ, exI, ts_succ, tsI, ev_succ, evI, ok_bind, exc_bind, bad_bind, upd_lookup, cmpV, inV, eqV, eqD, fzV, evs, fzs, truthV, atom_none, atom_bool, atom_int, atom_str, atom_tuple, atom_list, lenV, indexV, allI, anyI, binV, appI, iterI, evIt, condI, bnd1, bndN, loopG_nil, loopG_cons, next_after, cont_after, onInt_ok, onStr_ok, onList_ok, onTup_ok, onO_ok, onTab_ok, onAcc_ok, arg0_ok, arg1_ok, addV, ltV, atV]), ih, List.filter_cons_of_pos (by simpa using e)]; rfl
    · rw [compI_no (by simp [has_succ, blk_nil, blk_cons, next_then, ex_succ, exI, ts_succ, tsI, ev_succ, evI, ok_bind, exc_bind, bad_bind, upd_lookup, cmpV, inV, eqV, eqD, fzV, evs, fzs, truthV, atom_none, atom_bool, atom_int, atom_str, atom_tuple, atom_list, lenV, indexV, allI, anyI, binV, appI, iterI, evIt, condI, bnd1, bndN, loopG_nil, loopG_cons, next_after, cont_after, onInt_ok, onStr_ok, onList_ok, onTup_ok, onO_ok, onTab_ok, onAcc_ok, arg0_ok, arg1_ok, addV, ltV, atV, pairV, hk, hx, deedV, beq_eq_false_iff_ne.mpr e]), ih, List.filter_cons_of_neg (by simpa using e)]
end
namespace L5
open Mine
section
variable {n : Nat} {cap : Int} {f : Bool}
noncomputable def hb : List IS := [.ite (.and [.cmp .lt (.len (.var "held")) (.var "room"),
  .cmp .notIn (.index (.var "touch") (.const (.int 0))) (.comp (.index (.var "h") (.const (.int 0))) "h" (.plain (.var "held")) none)]) [.assign "held" (.bin .add (.list [.var "touch"]) (.var "held"))] []]
theorem loop_held : ∀ (l : Cch) (φ : Frm) (acc : Cch), acc.length + l.length ≤ 900 → φ.lookup "held" = some (.val (.list (acc.map pairV)) true) → φ.lookup "room" = some (.val (.int cap) f) →
    ∃ φ', loopG (recN tbl consts (n+20)) (bnd1 "touch") hb φ (l.map fun p => (pairV p, true)) = .ok (.next, φ') ∧ φ'.lookup "held" = some (.val (.list ((l.foldl (hstep cap) acc).map pairV)) true) := by
  intro v0
  induction v0 with
  | nil => intro φ acc _ h1 _; exact ⟨φ, rfl, h1⟩
  | cons p l ih =>
    intro φ acc hl h1 h2
    have hlim : acc.length ≤ 1000000 := by omega
    have hlim1 : 1 + acc.length ≤ 1000000 := by simp at hl; omega
    have q := comp_keys (tbl := tbl) (consts := consts) (n := n + 10) (ψ := vals (upd "touch" (.val (pairV p) true) φ)) (x := "h") acc
    by_cases c1 : (acc.length : Int) < cap
    · by_cases c2 : p.1 ∈ keys acc
      · have e : hstep cap acc p = acc := if_neg fun z => z.2 c2
        obtain ⟨φ', q1, q2⟩ := ih (upd "touch" (.val (pairV p) true) φ) acc (by simp at hl; omega) (by simp [upd_lookup, h1]) (by simp [upd_lookup, h2])
        refine ⟨φ', ?_, by rw [List.foldl_cons, e]; exact q2⟩
        rw [List.map_cons, ← q1]
        have e0 : indexV (pairV p) (.int 0) = .ok (.str p.1) := rfl
        simp [has_succ, blk_nil, blk_cons, next_then, ex_succ, exI, ts_succ, tsI, ev_succ, evI, ok_bind, upd_lookup, cmpV, inV, fzV, evs, fzs, lenV, allI, iterI, evIt, bnd1, loopG_cons, next_after, hb, h1, h2, c1, It.simple, pairs_flag, hlim, lim, q, e0, strsOf_map, any_key, c2, onInt_ok, onStr_ok, onList_ok, onTup_ok, onO_ok, onTab_ok, onAcc_ok, arg0_ok, arg1_ok, addV, ltV]
      · have e : hstep cap acc p = p :: acc := if_pos ⟨c1, c2⟩
        obtain ⟨φ', q1, q2⟩ := ih (upd "held" (.val (.list ((p :: acc).map pairV)) true) (upd "touch" (.val (pairV p) true) φ)) (p :: acc) (by simp at hl ⊢; omega) (by simp [upd_lookup]) (by simp [upd_lookup, h2])
        refine ⟨φ', ?_, by rw [List.foldl_cons, e]; exact q2⟩
        rw [List.map_cons, ← q1]
        have e0 : indexV (pairV p) (.int 0) = .ok (.str p.1) := rfl
        simp [has_succ, blk_nil, blk_cons, next_then, ex_succ, exI, ts_succ, tsI, ev_succ, evI, ok_bind, upd_lookup, cmpV, inV, fzV, evs, fzs, lenV, allI, iterI, evIt, bnd1, loopG_cons, next_after, hb, h1, h2, c1, It.simple, pairs_flag, hlim, hlim1, lim, q, e0, strsOf_map, any_key, c2, binV, onInt_ok, onStr_ok, onList_ok, onTup_ok, onO_ok, onTab_ok, onAcc_ok, arg0_ok, arg1_ok, addV, ltV]
    · have e : hstep cap acc p = acc := if_neg fun z => c1 z.1
      obtain ⟨φ', q1, q2⟩ := ih (upd "touch" (.val (pairV p) true) φ) acc (by simp at hl; omega) (by simp [upd_lookup, h1]) (by simp [upd_lookup, h2])
      refine ⟨φ', ?_, by rw [List.foldl_cons, e]; exact q2⟩
      rw [List.map_cons, ← q1]
      simp [has_succ, blk_nil, blk_cons, next_then, ex_succ, exI, ts_succ, tsI, ev_succ, evI, ok_bind, upd_lookup, cmpV, inV, fzV, evs, fzs, lenV, allI, iterI, evIt, bnd1, loopG_cons, next_after, hb, h1, h2, c1, onInt_ok, onStr_ok, onList_ok, onTup_ok, onO_ok, onTab_ok, onAcc_ok, arg0_ok, arg1_ok, addV, ltV]
theorem t_law_held : tbl "_law_held" = some (["log", "room"], b_law_held) := rfl
theorem held_ok {log : Cch} (hl : log.length ≤ 900) : (recN tbl consts (n + 22)).fn "_law_held" [(.list (log.map pairV), true), (.int cap, f)] = .ok (.list ((held cap log).map pairV), true) := by
  obtain ⟨φ', q1, q2⟩ := loop_held (n := n) (cap := cap) (f := f) log.reverse [("log", .val (.list (log.map pairV)) true), ("room", .val (.int cap) f), ("held", .val (.list []) true)] [] (by simpa using hl) rfl rfl
  have e : b_law_held = [.assign "held" (.list []), .for1 "touch" (.rev (.var "log")) hb, .ret (.var "held")] := rfl
  rw [List.map_reverse] at q1
  have q2' : φ'.lookup "held" = some (.val (.list ((held cap log).map pairV)) true) := q2
  simp [fn_succ, fnI, t_law_held, e, has_succ, blk_nil, blk_cons, next_then, ex_succ, exI, ts_succ, tsI, ev_succ, evI, ok_bind, exc_bind, bad_bind, upd_lookup, cmpV, inV, eqV, eqD, fzV, evs, fzs, truthV, atom_none, atom_bool, atom_int, atom_str, atom_tuple, atom_list, lenV, indexV, allI, anyI, binV, appI, iterI, evIt, condI, bnd1, bndN, loopG_nil, loopG_cons, next_after, cont_after, onInt_ok, onStr_ok, onList_ok, onTup_ok, onO_ok, onTab_ok, onAcc_ok, arg0_ok, arg1_ok, addV, ltV, atV, upd, List.lookup_cons, pairs_flag, q1, q2', freeze_lookup, frz, ret_then, lim]
theorem fold_len : ∀ (l acc : Cch), (l.foldl (hstep cap) acc).length ≤ acc.length + l.length := by
  intro v0
  induction v0 with
  | nil => intro acc; exact Nat.le_refl _
  | cons p l ih =>
    intro acc
    rw [List.foldl_cons]
    have h1 := ih (hstep cap acc p)
    have h2 : (hstep cap acc p).length ≤ acc.length + 1 := by unfold hstep; split <;> simp
    simp only [List.length_cons]; omega
theorem held_len (log : Cch) : (held cap log).length ≤ log.length := by
  have := fold_len (cap := cap) log.reverse []
  simpa [held] using this
theorem idx21 {a b : V} : indexV (.tuple [a, b]) (.int 1) = .ok b := rfl
noncomputable def ansOf (K : List PySem.Str) (l : Cch) (a : PySem.Str) : PySem.Str := l.foldl (fun a p => if p.1 ∈ K then a else p.1) a
noncomputable def ab : List IS := [.ite (.cmp .notIn (.index (.var "touch") (.const (.int 0))) (.var "names")) [.assign "answer" (.index (.var "touch") (.const (.int 0)))] []]
theorem loop_ans {K : List PySem.Str} : ∀ (l : Cch) (φ : Frm) (a : PySem.Str), φ.lookup "names" = some (.val (.list (K.map V.str)) true) → φ.lookup "answer" = some (.val (.str a) true) →
    ∃ φ', loopG (recN tbl consts (n+20)) (bnd1 "touch") ab φ (l.map fun p => (pairV p, true)) = .ok (.next, φ') ∧ φ'.lookup "answer" = some (.val (.str (ansOf K l a)) true) ∧ ∀ x, x ≠ "touch" → x ≠ "answer" → φ'.lookup x = φ.lookup x := by
  intro v0
  induction v0 with
  | nil => intro φ a _ h2; exact ⟨φ, rfl, h2, fun _ _ _ => rfl⟩
  | cons p l ih =>
    intro φ a h1 h2
    have e0 : indexV (pairV p) (.int 0) = .ok (.str p.1) := rfl
    by_cases c : p.1 ∈ K
    · obtain ⟨φ', q1, q2, q3⟩ := ih (upd "touch" (.val (pairV p) true) φ) a (by simp [upd_lookup, h1]) (by simp [upd_lookup, h2])
      refine ⟨φ', ?_, by unfold ansOf; rw [List.foldl_cons, if_pos c]; exact q2, fun x hx hy => by rw [q3 x hx hy, upd_lookup, if_neg hx]⟩
      rw [List.map_cons, ← q1]
      simp [has_succ, blk_nil, blk_cons, next_then, ex_succ, exI, ts_succ, tsI, ev_succ, evI, ok_bind, upd_lookup, cmpV, inV, fzV, bnd1, loopG_cons, next_after, ab, h1, h2, e0, strsOf_map, any_key, c, onInt_ok, onStr_ok, onList_ok, onTup_ok, onO_ok, onTab_ok, onAcc_ok, arg0_ok, arg1_ok, addV, ltV]
    · obtain ⟨φ', q1, q2, q3⟩ := ih (upd "answer" (.val (.str p.1) true) (upd "touch" (.val (pairV p) true) φ)) p.1 (by simp [upd_lookup, h1]) (by simp [upd_lookup])
      refine ⟨φ', ?_, by unfold ansOf; rw [List.foldl_cons, if_neg c]; exact q2, fun x hx hy => by rw [q3 x hx hy, upd_lookup, if_neg hy, upd_lookup, if_neg hx]⟩
      rw [List.map_cons, ← q1]
      simp [has_succ, blk_nil, blk_cons, next_then, ex_succ, exI, ts_succ, tsI, ev_succ, evI, ok_bind, upd_lookup, cmpV, inV, fzV, bnd1, loopG_cons, next_after, ab, h1, h2, e0, strsOf_map, any_key, c, onInt_ok, onStr_ok, onList_ok, onTup_ok, onO_ok, onTab_ok, onAcc_ok, arg0_ok, arg1_ok, addV, ltV]
theorem ansOf_all {K : List PySem.Str} {a : PySem.Str} : ∀ {l : Cch}, (∀ p ∈ l, p.1 ∈ K) → ansOf K l a = a := by
  intro v0
  induction v0 with
  | nil => intro _; exact rfl
  | cons p l ih =>
    intro h
    unfold ansOf
    rw [List.foldl_cons, if_pos (h p (.head _))]
    exact ih fun q hq => h q (.tail _ hq)
theorem laid_ansOf {c : Cch} {k : PySem.Str} {v : Int} (hn : (keys c).Nodup) : V.str (ansOf (keys (laid cap c k v).2) c (PySem.Str.ofString "")) = (laid cap c k v).1 := by
  unfold laid
  have ink : ∀ {l : Cch} {p}, p ∈ l → p.1 ∈ keys l := fun hp => List.mem_map.mpr ⟨_, hp, rfl⟩
  by_cases hk : k ∈ keys c
  · rw [if_pos hk]
    dsimp only
    rw [ansOf_all fun p hp => ?_]
    rw [keys_app, List.mem_append]
    by_cases e : p.1 = k
    · exact .inr (by simp [keys, e])
    · exact .inl (mem_off.mpr ⟨ink hp, e⟩)
  · rw [if_neg hk]
    by_cases hcap : cap ≤ (c.length : Int)
    · rw [if_pos hcap]
      cases c with
      | nil => rfl
      | cons p c =>
        have hp : p.1 ∉ keys c := (List.nodup_cons.mp hn).1
        dsimp only
        unfold ansOf
        rw [List.foldl_cons, if_neg (fun z => by
          rw [keys_app, List.mem_append] at z
          rcases z with z | z
          · exact hp z
          · simp only [keys, List.map_cons, List.map_nil, List.mem_singleton] at z
            exact hk (by rw [← z]; exact .head _))]
        have := ansOf_all (K := keys (c ++ [(k, v)])) (a := p.1) (l := c) fun q hq => by rw [keys_app, List.mem_append]; exact .inl (ink hq)
        unfold ansOf at this
        rw [this]
    · rw [if_neg hcap]
      dsimp only
      rw [ansOf_all fun p hp => by rw [keys_app, List.mem_append]; exact .inl (ink hp)]
noncomputable def rb : List IS := [.assign "before" (.call "_law_held" [.var "log",
  .var "room"]),
  .ite (.cmp .eq (.index (.var "deed") (.const (.int 0))) (.const (.str (PySem.Str.ofString "get")))) [.assign "found" (.comp (.var "touch") "touch" (.plain (.var "before")) (some (.cmp .eq (.index (.var "touch") (.const (.int 0))) (.index (.var "deed") (.const (.int 1)))))),
  .assign "log" (.bin .add (.var "log") (.var "found")),
  .assign "answer" (.const .none),
  .for1 "touch" (.plain (.var "found")) [.assign "answer" (.index (.var "touch") (.const (.int 1)))]] [.assign "log" (.bin .add (.var "log") (.list [.tuple [.index (.var "deed") (.const (.int 1)),
  .index (.var "deed") (.const (.int 2))]])),
  .assign "names" (.comp (.index (.var "h") (.const (.int 0))) "h" (.plain (.call "_law_held" [.var "log",
  .var "room"])) none),
  .assign "answer" (.const (.str (PySem.Str.ofString ""))),
  .for1 "touch" (.plain (.var "before")) ab],
  .assign "gave" (.bin .add (.var "gave") (.list [.var "answer"]))]
/-- one turn of the replay -/
theorem turn_replay {d : Deed} {φ : Frm} {log : Cch} {gave : List V} (hc : 1 ≤ cap) (hl : log.length ≤ 800) (hg : gave.length ≤ 800) (h1 : φ.lookup "log" = some (.val (.list (log.map pairV)) true)) (h2 : φ.lookup "gave" = some (.val (.list gave) true)) (h3 : φ.lookup "room" = some (.val (.int cap) f)) (h4 : φ.lookup "deed" = some (.val (deedV d) true)) :
    ∃ φ' log', blk (recN tbl consts (n+30)) φ rb = .ok (.next, φ') ∧ log'.length ≤ log.length + 1 ∧ held cap log' = (stp cap (held cap log) d).2 ∧ φ'.lookup "log" = some (.val (.list (log'.map pairV)) true) ∧ φ'.lookup "gave" = some (.val (.list (gave ++ [(stp cap (held cap log) d).1])) true) ∧ φ'.lookup "room" = some (.val (.int cap) f) := by
  obtain ⟨_, hn, hcl⟩ := held_snoc hc log d.key d.val
  have hgl : gave.length ≤ 999999 := by omega
  have q0 := held_ok (n := n + 6) (cap := cap) (f := f) (log := log) (by omega)
  have hhl : (held cap log).length ≤ 1000000 := by have := held_len (cap := cap) log; omega
  cases hd : d.get with
  | true =>
    have e0 : indexV (deedV d) (.int 0) = .ok (.str (PySem.Str.ofString "get")) := by unfold deedV; rw [hd]; rfl
    cases h : (held cap log).lookup d.key with
    | none =>
      have hk := lookup_keys.mp h
      have e : (held cap log).filter (fun p => p.1 = d.key) = [] := List.filter_eq_nil_iff.mpr fun p hp => by simpa using fun z => hk (List.mem_map.mpr ⟨p, hp, z⟩)
      have es : stp cap (held cap log) d = (.none, held cap log) := by unfold stp; rw [if_pos hd, h]
      rw [es]
      refine ⟨upd "gave" (.val (.list (gave ++ [.none])) true) (upd "answer" (.val .none true) (upd "log" (.val (.list (log.map pairV)) true) (upd "found" (.val (.list []) true) (upd "before" (.val (.list ((held cap log).map pairV)) true) φ)))), log, ?_, by omega, rfl, by simp [upd_lookup], by simp [upd_lookup], by simp [upd_lookup, h3]⟩
      have q1 := comp_eq2 (tbl := tbl) (consts := consts) (n := n + 21) (ψ := vals (upd "before" (.val (.list ((held cap log).map pairV)) true) φ)) (x := "touch") (d := d) (deed := "deed") (fd := true) (by rw [vals_lookup, upd_lookup, if_neg (by decide), h4]; rfl) (by decide) (held cap log)
      rw [e] at q1
      have hl1 : log.length ≤ 1000000 := by omega
      simp [has_succ, blk_nil, blk_cons, next_then, ex_succ, exI, ts_succ, tsI, ev_succ, evI, ok_bind, upd_lookup, cmpV, eqV, fzV, evs, fzs, iterI, evIt, bnd1, loopG_nil, loopG_cons, next_after, rb, h1, h2, h3, h4, e0, t_law_held, q0, It.simple, pairs_flag, hhl, lim, q1, binV, hl1, hgl, onInt_ok, onStr_ok, onList_ok, onTup_ok, onO_ok, onTab_ok, onAcc_ok, arg0_ok, arg1_ok, addV, ltV]
    | some v =>
      have hk : d.key ∈ keys (held cap log) := by
        by_cases q : d.key ∈ keys (held cap log)
        · exact q
        · rw [lookup_keys.mpr q] at h; cases h
      have e := hits_one hn h
      have es : stp cap (held cap log) d = (.int v, off d.key (held cap log) ++ [(d.key, v)]) := by unfold stp; rw [if_pos hd, h]
      have eh : held cap (log ++ [(d.key, v)]) = off d.key (held cap log) ++ [(d.key, v)] := by rw [(held_snoc hc log d.key v).1]; unfold laid; rw [if_pos hk]
      rw [es]
      refine ⟨upd "gave" (.val (.list (gave ++ [.int v])) true) (upd "answer" (.val (.int v) true) (upd "touch" (.val (.tuple [.str d.key, .int v]) true) (upd "answer" (.val .none true) (upd "log" (.val (.list ((log ++ [(d.key, v)]).map pairV)) true) (upd "found" (.val (.list [.tuple [.str d.key, .int v]]) true) (upd "before" (.val (.list ((held cap log).map pairV)) true) φ)))))), log ++ [(d.key, v)], ?_, by simp, eh, by simp [upd_lookup], by simp [upd_lookup], by simp [upd_lookup, h3]⟩
      have q1 := comp_eq2 (tbl := tbl) (consts := consts) (n := n + 21) (ψ := vals (upd "before" (.val (.list ((held cap log).map pairV)) true) φ)) (x := "touch") (d := d) (deed := "deed") (fd := true) (by rw [vals_lookup, upd_lookup, if_neg (by decide), h4]; rfl) (by decide) (held cap log)
      rw [e] at q1
      have hl1 : log.length ≤ 999999 := by omega
      simp [has_succ, blk_nil, blk_cons, next_then, ex_succ, exI, ts_succ, tsI, ev_succ, evI, ok_bind, upd_lookup, cmpV, eqV, fzV, evs, fzs, iterI, evIt, bnd1, loopG_nil, loopG_cons, next_after, rb, h1, h2, h3, h4, e0, t_law_held, q0, It.simple, pairs_flag, hhl, lim, q1, binV, hl1, hgl, pairV_mk, idx21, onInt_ok, onStr_ok, onList_ok, onTup_ok, onO_ok, onTab_ok, onAcc_ok, arg0_ok, arg1_ok, addV, ltV]
  | false =>
    have e0 : indexV (deedV d) (.int 0) = .ok (.str (PySem.Str.ofString "put")) := by unfold deedV; rw [hd]; rfl
    have e1 : indexV (deedV d) (.int 1) = .ok (.str d.key) := rfl
    have e2 : indexV (deedV d) (.int 2) = .ok (.int d.val) := rfl
    have es : stp cap (held cap log) d = laid cap (held cap log) d.key d.val := by unfold stp; rw [hd]; rfl
    have eh := (held_snoc hc log d.key d.val).1
    have hl1 : log.length ≤ 999999 := by omega
    have q3 := held_ok (n := n + 4) (cap := cap) (f := f) (log := log ++ [(d.key, d.val)]) (by simp; omega)
    rw [eh] at q3
    have hhl2 : (laid cap (held cap log) d.key d.val).2.length ≤ 1000000 := by rw [← eh]; have := held_len (cap := cap) (log ++ [(d.key, d.val)]); simp at this; omega
    rw [es]
    obtain ⟨φ₁, p1, p2, p3⟩ := loop_ans (n := n + 8) (K := keys (laid cap (held cap log) d.key d.val).2) (held cap log) (upd "answer" (.val (.str (PySem.Str.ofString "")) true) (upd "names" (.val (.list ((keys (laid cap (held cap log) d.key d.val).2).map V.str)) true) (upd "log" (.val (.list ((log ++ [(d.key, d.val)]).map pairV)) true) (upd "before" (.val (.list ((held cap log).map pairV)) true) φ)))) (PySem.Str.ofString "") (by simp [upd_lookup]) (by simp [upd_lookup])
    refine ⟨upd "gave" (.val (.list (gave ++ [(laid cap (held cap log) d.key d.val).1])) true) φ₁, log ++ [(d.key, d.val)], ?_, by simp, eh, ?_, by simp [upd_lookup], ?_⟩
    · have q1 := fun ψ => comp_keys (tbl := tbl) (consts := consts) (n := n + 21) (ψ := ψ) (x := "h") (laid cap (held cap log) d.key d.val).2
      have p3' : φ₁.lookup "gave" = some (.val (.list gave) true) := by rw [p3 _ (by decide) (by decide)]; simp [upd_lookup, h2]
      rw [← laid_ansOf hn]
      simp only [List.map_append, List.map_cons, List.map_nil, pairV_mk] at p1 q3
      simp [has_succ, blk_nil, blk_cons, next_then, ex_succ, exI, ts_succ, tsI, ev_succ, evI, ok_bind, upd_lookup, cmpV, eqV, fzV, evs, fzs, iterI, evIt, bnd1, loopG_nil, loopG_cons, next_after, rb, h1, h2, h3, h4, e0, e1, e2, t_law_held, q0, It.simple, pairs_flag, hhl, hhl2, lim, q1, binV, hl1, hgl, pairV_mk, get_ne, q3, p1, p2, p3', atom_str, onInt_ok, onStr_ok, onList_ok, onTup_ok, onO_ok, onTab_ok, onAcc_ok, arg0_ok, arg1_ok, addV, ltV]
    · rw [upd_lookup, if_neg (by decide), p3 _ (by decide) (by decide)]; simp [upd_lookup]
    · rw [upd_lookup, if_neg (by decide), p3 _ (by decide) (by decide)]; simp [upd_lookup, h3]
theorem loop_replay (hc : 1 ≤ cap) : ∀ (ds : List Deed) (φ : Frm) (log : Cch) (gave : List V), log.length + ds.length ≤ 800 → gave.length + ds.length ≤ 800 → φ.lookup "log" = some (.val (.list (log.map pairV)) true) → φ.lookup "gave" = some (.val (.list gave) true) → φ.lookup "room" = some (.val (.int cap) f) →
    ∃ φ' log', loopG (recN tbl consts (n+30)) (bnd1 "deed") rb φ (ds.map fun d => (deedV d, true)) = .ok (.next, φ') ∧ log'.length ≤ log.length + ds.length ∧ held cap log' = (run cap (held cap log) ds).2 ∧ φ'.lookup "log" = some (.val (.list (log'.map pairV)) true) ∧ φ'.lookup "gave" = some (.val (.list (gave ++ (run cap (held cap log) ds).1)) true) ∧ φ'.lookup "room" = some (.val (.int cap) f) := by
  intro v0
  induction v0 with
  | nil => intro φ log gave _ _ h1 h2 h3; exact ⟨φ, log, rfl, by simp, rfl, h1, by rw [h2]; simp [run], h3⟩
  | cons d ds ih =>
    intro φ log gave hl hg h1 h2 h3
    simp only [List.length_cons] at hl hg
    obtain ⟨φ₁, log₁, p1, p2, p3, p4, p5, p6⟩ := turn_replay (n := n) (f := f) (d := d) (φ := upd "deed" (.val (deedV d) true) φ) (log := log) (gave := gave) hc (by omega) (by omega) (by simp [upd_lookup, h1]) (by simp [upd_lookup, h2]) (by simp [upd_lookup, h3]) (by simp [upd_lookup])
    obtain ⟨φ₂, log₂, q1, q2, q3, q4, q5, q6⟩ := ih φ₁ log₁ (gave ++ [(stp cap (held cap log) d).1]) (by omega) (by simp; omega) p4 p5 p6
    refine ⟨φ₂, log₂, ?_, by simp only [List.length_cons]; omega, by rw [q3, p3]; rfl, q4, ?_, q6⟩
    · rw [List.map_cons, loopG_cons]
      show Res.bind (Res.bind (fzV (deedV d, true)) _) _ = _
      have e : fzV (deedV d, true) = .ok (deedV d) := rfl
      rw [e, ok_bind, ok_bind, p1, ok_bind, next_after, q1]
    · rw [q5, p3, run_cons]; simp
theorem t_law_replay : tbl "_law_replay" = some (["deeds", "room"], b_law_replay) := rfl
theorem replay_ok (hc : 1 ≤ cap) (ds : List Deed) (hl : ds.length ≤ 800) : (recN tbl consts (n + 32)).fn "_law_replay" [(.list (ds.map deedV), true), (.int cap, f)] = .ok (outV cap ds, true) := by
  obtain ⟨φ', log', q1, q2, q3, q4, q5, q6⟩ := loop_replay (n := n) (f := f) hc ds [("deeds", .val (.list (ds.map deedV)) true), ("room", .val (.int cap) f), ("log", .val (.list []) true), ("gave", .val (.list []) true)] [] [] (by simpa using hl) (by simpa using hl) rfl rfl rfl
  have e : ds.map ((fun d => (d, true)) ∘ deedV) = ds.map fun d => (deedV d, true) := rfl
  have hb : b_law_replay = [.assign "log" (.list []), .assign "gave" (.list []), .for1 "deed" (.plain (.var "deeds")) rb, .ret (.tuple [.var "gave", .call "_law_held" [.var "log", .var "room"]])] := rfl
  have h0 : held cap [] = [] := rfl
  have q7 := held_ok (n := n + 6) (cap := cap) (f := f) (log := log') (by simp at q2; omega)
  rw [q3, h0] at q7
  rw [h0] at q5
  rw [show n + 32 = (n + 31) + 1 from rfl, fn_succ]
  simp [fnI, t_law_replay, hb, blk_nil, blk_cons, next_then, ex_succ, exI, ev_succ, evI, ok_bind, upd, List.lookup_cons, fzV, evs, fzs, iterI, evIt, e, q1, q4, q5, q6, freeze_lookup, frz, ret_then, lim, has_succ, t_law_held, q7, outV, onInt_ok, onStr_ok, onList_ok, onTup_ok, onO_ok, onTab_ok, onAcc_ok, arg0_ok, arg1_ok, addV, ltV]
end
end L5
end Mine
end

section
set_option Elab.async false
set_option linter.unusedSimpArgs false
set_option maxRecDepth 100000
namespace Mine
open PySem
theorem len_app (a b : PySem.Str) : (a ++ b).length = a.length + b.length := by
  obtain ⟨a⟩ := a; obtain ⟨b⟩ := b
  show (a ++ b).size = _
  rw [Array.size_append]; rfl
theorem fmod_fin (a : Int) (m : Nat) (hm : 0 < m) : ∃ i : Fin m, a.fmod (m : Int) = ((i.val : Nat) : Int) := by
  have h1 : 0 ≤ a.fmod (m : Int) := Int.fmod_nonneg_of_pos a (by omega)
  have h2 : a.fmod (m : Int) < m := Int.fmod_lt_of_pos a (by omega)
  exact ⟨⟨(a.fmod m).toNat, by omega⟩, by simp; omega⟩
structure LineD where
  text : PySem.Str
  deed : Option Deed
  why : PySem.Str
noncomputable def lineV (l : LineD) : V := .tuple [.str l.text, .list (l.deed.toList.map deedV), .str l.why]
namespace L5
open Mine
inductive Code where
  | get (a : Fin 4)
  | put (a : Fin 4) (b : Fin 9)
  | noise (a : Fin 4)
  | bad (a : Fin 12)
abbrev S (x : String) : PySem.Str := PySem.Str.ofString x
noncomputable def nameOf : Fin 4 → PySem.Str
  | 0 => S "a"
  | 1 => S "#b"
  | 2 => S "\u00e9"
  | 3 => Txt.mul (S "n") 200
noncomputable def valOf : Fin 9 → PySem.Str × Int
  | 0 => (S "7", 7)
  | 1 => (S "0", 0)
  | 2 => (S "-3", -3)
  | 3 => (S "007", 7)
  | 4 => (S "-0", 0)
  | 5 => (S "-05", -5)
  | 6 => (S "1000000000000000000", 1000000000000000000)
  | 7 => (S "-1000000000000000000", -1000000000000000000)
  | 8 => (S "0000000000000000000000005", 5)
noncomputable def noiseOf : Fin 4 → PySem.Str
  | 0 => S ""
  | 1 => S "# put a 1"
  | 2 => S " \t"
  | 3 => S "#"
noncomputable def badOf : Fin 12 → PySem.Str × PySem.Str
  | 0 => (S "take a", S "expected 'get KEY' or 'put KEY VALUE'")
  | 1 => (S "get", S "expected 'get KEY' or 'put KEY VALUE'")
  | 2 => (S "get a b", S "expected 'get KEY' or 'put KEY VALUE'")
  | 3 => (S "put a", S "expected 'get KEY' or 'put KEY VALUE'")
  | 4 => (S "put a 1 2", S "expected 'get KEY' or 'put KEY VALUE'")
  | 5 => (S "put a 1000000000000000001", S "a number must lie between -1000000000000000000 and 1000000000000000000")
  | 6 => (S "put a -1000000000000000001", S "a number must lie between -1000000000000000000 and 1000000000000000000")
  | 7 => (S "put a 10000000000000000000", S "a number must lie between -1000000000000000000 and 1000000000000000000")
  | 8 => (S "put a --7", S "not a whole number: '--7'")
  | 9 => (S "put a \u0663", S "not a whole number: '\\u0663'")
  | 10 => (S "get a\x7fb", S "a name may hold printable characters only: 'a\\x7fb'")
  | 11 => (S "get " ++ Txt.mul (S "n") 201, S "a name may have at most 200 characters")
noncomputable def bodyOf (l1 : PySem.Str) : Code → PySem.Str
  | .get a => S "get" ++ l1 ++ nameOf a
  | .put a b => S "put" ++ l1 ++ nameOf a ++ l1 ++ (valOf b).1
  | .noise a => noiseOf a
  | .bad a => (badOf a).1
noncomputable def deedOf : Code → Option Deed
  | .get a => some ⟨true, nameOf a, 0⟩
  | .put a b => some ⟨false, nameOf a, (valOf b).2⟩
  | _ => none
noncomputable def whyOf : Code → PySem.Str
  | .bad a => (badOf a).2
  | _ => S ""
noncomputable def mkLine (l0 l1 l2 : PySem.Str) (c : Code) : LineD := ⟨l0 ++ bodyOf l1 c ++ l2, deedOf c, whyOf c⟩
theorem name_idx (i : Fin 4) : indexV (.tuple [.str (S "a"), .str (S "#b"), .str (S "\u00e9"), .str (Txt.mul (S "n") 200)]) (.int ((i.val : Nat) : Int)) = .ok (.str (nameOf i)) := by
  match i with
  | 0 => rfl
  | 1 => rfl
  | 2 => rfl
  | 3 => rfl
noncomputable def valsT : List V := [0, 1, 2, 3, 4, 5, 6, 7, 8].map fun i : Fin 9 => .tuple [.str (valOf i).1, .int (valOf i).2]
theorem c_vals : consts "_law_values" = some (.tuple valsT) := rfl
theorem val_idx (i : Fin 9) : indexV (.tuple valsT) (.int ((i.val : Nat) : Int)) = .ok (.tuple [.str (valOf i).1, .int (valOf i).2]) := by
  match i with
  | 0 | 1 | 2 | 3 | 4 | 5 | 6 | 7 | 8 => rfl
noncomputable def noiseT : List V := [0, 1, 2, 3].map fun i : Fin 4 => .str (noiseOf i)
theorem c_noise : consts "_law_noise" = some (.tuple noiseT) := rfl
theorem noise_idx (i : Fin 4) : indexV (.tuple noiseT) (.int ((i.val : Nat) : Int)) = .ok (.str (noiseOf i)) := by
  match i with
  | 0 | 1 | 2 | 3 => rfl
noncomputable def badT : List V := [0, 1, 2, 3, 4, 5, 6, 7, 8, 9, 10].map fun i : Fin 12 => .tuple [.str (badOf i).1, .str (badOf i).2]
theorem c_bad : consts "_law_bad" = some (.tuple badT) := rfl
theorem bad_idx (i : Fin 12) : indexV (.tuple (badT ++ [.tuple [.str (S "get " ++ Txt.mul (S "n") 201), .str (S "a name may have at most 200 characters")]])) (.int ((i.val : Nat) : Int)) = .ok (.tuple [.str (badOf i).1, .str (badOf i).2]) := by
  match i with
  | 0 | 1 | 2 | 3 | 4 | 5 | 6 | 7 | 8 | 9 | 10 | 11 => rfl
theorem badT_ne : badT ≠ [] := fun h => nomatch h
theorem badT_len : badT.length = 11 := rfl
theorem name_len (i : Fin 4) : (nameOf i).length ≤ 200 := by
  match i with
  | 0 => decide
  | 1 => decide
  | 2 => decide
  | 3 => decide +kernel
theorem val_len (i : Fin 9) : (valOf i).1.length ≤ 30 := by revert i; decide +kernel
theorem noise_len (i : Fin 4) : (noiseOf i).length ≤ 10 := by revert i; decide +kernel
theorem bad_len (i : Fin 12) : (badOf i).1.length ≤ 250 := by revert i; decide +kernel
theorem t_law_line : tbl "_law_line" = some (["kind", "a", "b", "lay"], b_law_line) := rfl
theorem idx20 {a b : V} : indexV (.tuple [a, b]) (.int 0) = .ok a := rfl
theorem idx30 {a b c : V} : indexV (.tuple [a, b, c]) (.int 0) = .ok a := rfl
theorem idx31 {a b c : V} : indexV (.tuple [a, b, c]) (.int 1) = .ok b := rfl
theorem idx32 {a b c : V} : indexV (.tuple [a, b, c]) (.int 2) = .ok c := rfl
section
variable {n : Nat} {kind a b : Int} {l0 l1 l2 : PySem.Str} {f1 f2 f3 : Bool}
theorem line_ok (h0 : l0.length ≤ 10) (h1 : l1.length ≤ 10) (h2 : l2.length ≤ 10) : ∃ c : Code, (recN tbl consts (n+20)).fn "_law_line" [(.int kind, f1), (.int a, f2), (.int b, f3), (.tuple [.str l0, .str l1, .str l2], true)] = .ok (lineV (mkLine l0 l1 l2 c), true) := by
  obtain ⟨i4, ha4⟩ := fmod_fin a 4 (by decide)
  obtain ⟨i12, ha12⟩ := fmod_fin a 12 (by decide)
  obtain ⟨j, hb9⟩ := fmod_fin b 9 (by decide)
  have ha4 : a.fmod 4 = ((i4.val : Nat) : Int) := ha4
  have ha12 : a.fmod 12 = ((i12.val : Nat) : Int) := ha12
  have hb9 : b.fmod 9 = ((j.val : Nat) : Int) := hb9
  have nl := name_len i4
  have vl := val_len j
  have ol := noise_len i4
  have bl := bad_len i12
  have e3 : (S "get").length = 3 := rfl
  have e3' : (S "put").length = 3 := rfl
  have e4 : (S "get ").length = 4 := rfl
  have e1 : (S "n").length = 1 := rfl
  have m1 : (Txt.mul (S "n") 201).length ≤ 999000 := by decide +kernel
  by_cases c1 : kind.fmod 12 < 4
  · refine ⟨.get i4, ?_⟩
    have g1 : (S "get").length + l1.length ≤ 1000000 := by omega
    have g2 : (S "get").length + l1.length + (nameOf i4).length ≤ 1000000 := by omega
    have g3 : l0.length + ((S "get").length + l1.length + (nameOf i4).length) ≤ 1000000 := by omega
    have g4 : l0.length + ((S "get").length + l1.length + (nameOf i4).length) + l2.length ≤ 1000000 := by omega
    simp [fn_succ, fnI, t_law_line, b_law_line, blk_nil, blk_cons, next_then, ex_succ, exI, ts_succ, tsI, ev_succ, evI, ok_bind, upd, List.lookup_cons, cmpV, fzV, evs, fzs, binV, ha4, e1, lim, name_idx, c1, atom_int, atom_str, idx30, idx31, idx32, len_app, g1, g2, g3, g4, freeze, ret_then, lineV, mkLine, bodyOf, deedOf, whyOf, deedV, onInt_ok, onStr_ok, onList_ok, onTup_ok, onO_ok, onTab_ok, onAcc_ok, arg0_ok, arg1_ok, addV, ltV]
  · by_cases c2 : kind.fmod 12 < 10
    · refine ⟨.put i4 j, ?_⟩
      have c3 := c2
      have g1 : (S "put").length + l1.length ≤ 1000000 := by omega
      have g2 : (S "put").length + l1.length + (nameOf i4).length ≤ 1000000 := by omega
      have g3 : (S "put").length + l1.length + (nameOf i4).length + l1.length ≤ 1000000 := by omega
      have g4 : (S "put").length + l1.length + (nameOf i4).length + l1.length + (valOf j).1.length ≤ 1000000 := by omega
      have g5 : l0.length + ((S "put").length + l1.length + (nameOf i4).length + l1.length + (valOf j).1.length) ≤ 1000000 := by omega
      have g6 : l0.length + ((S "put").length + l1.length + (nameOf i4).length + l1.length + (valOf j).1.length) + l2.length ≤ 1000000 := by omega
      simp [fn_succ, fnI, t_law_line, b_law_line, blk_nil, blk_cons, next_then, ex_succ, exI, ts_succ, tsI, ev_succ, evI, ok_bind, upd, List.lookup_cons, cmpV, fzV, evs, fzs, binV, ha4, ha12, hb9, e1, lim, name_idx, c1, c2, c3, atom_int, atom_str, idx30, idx31, idx32, idx20, idx21, len_app, freeze, ret_then, lineV, mkLine, bodyOf, deedOf, whyOf, deedV, c_vals, val_idx, g1, g2, g3, g4, g5, g6, onInt_ok, onStr_ok, onList_ok, onTup_ok, onO_ok, onTab_ok, onAcc_ok, arg0_ok, arg1_ok, addV, ltV]
    · by_cases c3 : kind.fmod 12 < 11
      · refine ⟨.noise i4, ?_⟩
        have g5 : l0.length + (noiseOf i4).length ≤ 1000000 := by omega
        have g6 : l0.length + (noiseOf i4).length + l2.length ≤ 1000000 := by omega
        simp [fn_succ, fnI, t_law_line, b_law_line, blk_nil, blk_cons, next_then, ex_succ, exI, ts_succ, tsI, ev_succ, evI, ok_bind, upd, List.lookup_cons, cmpV, fzV, evs, fzs, binV, ha4, ha12, hb9, e1, lim, name_idx, c1, c2, c3, atom_int, atom_str, idx30, idx31, idx32, idx20, idx21, len_app, freeze, ret_then, lineV, mkLine, bodyOf, deedOf, whyOf, deedV, c_noise, noise_idx, g5, g6, onInt_ok, onStr_ok, onList_ok, onTup_ok, onO_ok, onTab_ok, onAcc_ok, arg0_ok, arg1_ok, addV, ltV]
      · refine ⟨.bad i12, ?_⟩
        have g4 : (S "get ").length + (Txt.mul (S "n") 201).length ≤ 1000000 := by omega
        have g5 : l0.length + (badOf i12).1.length ≤ 1000000 := by omega
        have g6 : l0.length + (badOf i12).1.length + l2.length ≤ 1000000 := by omega
        simp [fn_succ, fnI, t_law_line, b_law_line, blk_nil, blk_cons, next_then, ex_succ, exI, ts_succ, tsI, ev_succ, evI, ok_bind, upd, List.lookup_cons, cmpV, fzV, evs, fzs, binV, ha4, ha12, hb9, e1, lim, name_idx, c1, c2, c3, atom_int, atom_str, idx30, idx31, idx32, idx20, idx21, len_app, freeze, ret_then, lineV, mkLine, bodyOf, deedOf, whyOf, deedV, c_bad, bad_idx, g4, g5, g6, badT_len, badT_ne, onInt_ok, onStr_ok, onList_ok, onTup_ok, onO_ok, onTab_ok, onAcc_ok, arg0_ok, arg1_ok, addV, ltV]
end
end L5
end Mine
end

section
set_option Elab.async false
set_option linter.unusedSimpArgs false
set_option maxRecDepth 100000
namespace Mine
open PySem
namespace L5
open Mine
noncomputable def lineTxt (i : Int) (m : PySem.Str) : PySem.Str := PySem.Str.ofString "line " ++ PySem.Str.ofString (toString i) ++ PySem.Str.ofString ": " ++ m
noncomputable def tbody : List IS := [.assign "words" (.meth .split0 (.var "line") []),
  .ite (.or [.not (.tt (.var "words")),
  .tt (.meth .startswith (.index (.var "words") (.const (.int 0))) [.const (.str (PySem.Str.ofString "#"))])]) [.cont] [],
  .tryLine (.and [.cmp .eq (.index (.var "words") (.const (.int 0))) (.const (.str (PySem.Str.ofString "get"))),
  .cmp .eq (.len (.var "words")) (.const (.int 2))]) "ops" (.tuple [.const (.str (PySem.Str.ofString "get")),
  .call "check_name" [.index (.var "words") (.const (.int 1))],
  .const (.int 0)]) (.and [.cmp .eq (.index (.var "words") (.const (.int 0))) (.const (.str (PySem.Str.ofString "put"))),
  .cmp .eq (.len (.var "words")) (.const (.int 3))]) (.tuple [.const (.str (PySem.Str.ofString "put")),
  .call "check_name" [.index (.var "words") (.const (.int 1))],
  .call "parse_signed" [.index (.var "words") (.const (.int 2))]]) (.const (.str (PySem.Str.ofString "expected 'get KEY' or 'put KEY VALUE'"))) "number"]
theorem t_check_name : tbl "check_name" = some (["text"], b_check_name) := rfl
theorem t_parse_signed : tbl "parse_signed" = some (["text"], b_parse_signed) := rfl
theorem get_eq : (PySem.Str.ofString "get" == PySem.Str.ofString "get") = true := by decide
theorem put_eq : (PySem.Str.ofString "put" == PySem.Str.ofString "put") = true := by decide
theorem get_hash : Txt.startswith (PySem.Str.ofString "get") (PySem.Str.ofString "#") = false := by decide +kernel
theorem put_hash : Txt.startswith (PySem.Str.ofString "put") (PySem.Str.ofString "#") = false := by decide +kernel
section
variable {n : Nat} {φ : Frm} {ds : List V} {i : Int} {f : Bool} {x : PySem.Str}
theorem body_nil (h3 : φ.lookup "line" = some (.val (.str x) true)) (hx : x.length ≤ 1000000) (hw : Txt.words x = []) :
    blk (recN tbl consts (n + 30)) φ tbody = .ok (.cont, upd "words" (.val (.list []) true) φ) := by
  simp [has_succ, blk_nil, blk_cons, next_then, ex_succ, exI, ts_succ, tsI, ev_succ, evI, ok_bind, exc_bind, bad_bind, upd_lookup, cmpV, inV, eqV, eqD, fzV, evs, fzs, truthV, atom_none, atom_bool, atom_int, atom_str, atom_tuple, atom_list, lenV, indexV, allI, anyI, binV, appI, iterI, evIt, condI, bnd1, bndN, loopG_nil, loopG_cons, next_after, cont_after, onInt_ok, onStr_ok, onList_ok, onTup_ok, onO_ok, onTab_ok, onAcc_ok, arg0_ok, arg1_ok, addV, ltV, atV, tbody, h3, hx, hw, methV, lim, cont_then]
theorem body_hash {w : PySem.Str} {r : List PySem.Str} (h3 : φ.lookup "line" = some (.val (.str x) true)) (hx : x.length ≤ 1000000) (hw : Txt.words x = w :: r) (hh : Txt.startswith w (PySem.Str.ofString "#") = true) :
    blk (recN tbl consts (n + 30)) φ tbody = .ok (.cont, upd "words" (.val (.list ((w :: r).map V.str)) true) φ) := by
  simp [has_succ, blk_nil, blk_cons, next_then, ex_succ, exI, ts_succ, tsI, ev_succ, evI, ok_bind, exc_bind, bad_bind, upd_lookup, cmpV, inV, eqV, eqD, fzV, evs, fzs, truthV, atom_none, atom_bool, atom_int, atom_str, atom_tuple, atom_list, lenV, indexV, allI, anyI, binV, appI, iterI, evIt, condI, bnd1, bndN, loopG_nil, loopG_cons, next_after, cont_after, onInt_ok, onStr_ok, onList_ok, onTup_ok, onO_ok, onTab_ok, onAcc_ok, arg0_ok, arg1_ok, addV, ltV, atV, tbody, h3, hx, hw, methV, lim, cont_then, hh]
theorem body_get {k : PySem.Str} (h1 : φ.lookup "ops" = some (.acc ds)) (h3 : φ.lookup "line" = some (.val (.str x) true)) (hx : x.length ≤ 1000000) (hl : ds.length < 1000000) (hw : Txt.words x = [PySem.Str.ofString "get", k])
    (hc : (recN tbl consts (n + 27)).fn "check_name" [(.str k, true)] = .ok (.str k, true)) :
    blk (recN tbl consts (n + 30)) φ tbody = .ok (.next, upd "ops" (.acc (ds ++ [deedV ⟨true, k, 0⟩])) (upd "words" (.val (.list [.str (PySem.Str.ofString "get"), .str k]) true) φ)) := by
  simp [has_succ, blk_nil, blk_cons, next_then, ex_succ, exI, ts_succ, tsI, ev_succ, evI, ok_bind, exc_bind, bad_bind, upd_lookup, cmpV, inV, eqV, eqD, fzV, evs, fzs, truthV, atom_none, atom_bool, atom_int, atom_str, atom_tuple, atom_list, lenV, indexV, allI, anyI, binV, appI, iterI, evIt, condI, bnd1, bndN, loopG_nil, loopG_cons, next_after, cont_after, onInt_ok, onStr_ok, onList_ok, onTup_ok, onO_ok, onTab_ok, onAcc_ok, arg0_ok, arg1_ok, addV, ltV, atV, tbody, h1, h3, hx, hw, methV, lim, get_hash, tryLineI, t_check_name, hc, hl, deedV]
theorem body_get_exc {k m : PySem.Str} (h1 : φ.lookup "ops" = some (.acc ds)) (h2 : φ.lookup "number" = some (.val (.int i) f)) (h3 : φ.lookup "line" = some (.val (.str x) true)) (hx : x.length ≤ 1000000) (hi : i.natAbs < 2 ^ 60) (hm : m.length ≤ 100000) (hw : Txt.words x = [PySem.Str.ofString "get", k])
    (hc : (recN tbl consts (n + 27)).fn "check_name" [(.str k, true)] = .exc (m, true)) :
    blk (recN tbl consts (n + 30)) φ tbody = .exc (lineTxt i m, false) := by
  have hi' : i.natAbs < 1152921504606846976 := hi
  simp [has_succ, blk_nil, blk_cons, next_then, ex_succ, exI, ts_succ, tsI, ev_succ, evI, ok_bind, exc_bind, bad_bind, upd_lookup, cmpV, inV, eqV, eqD, fzV, evs, fzs, truthV, atom_none, atom_bool, atom_int, atom_str, atom_tuple, atom_list, lenV, indexV, allI, anyI, binV, appI, iterI, evIt, condI, bnd1, bndN, loopG_nil, loopG_cons, next_after, cont_after, onInt_ok, onStr_ok, onList_ok, onTup_ok, onO_ok, onTab_ok, onAcc_ok, arg0_ok, arg1_ok, addV, ltV, atV, tbody, h1, h2, h3, hx, hw, methV, lim, get_hash, tryLineI, t_check_name, hc, hi', hm, lineTxt]
theorem body_put {k t : PySem.Str} {v : Int} (h1 : φ.lookup "ops" = some (.acc ds)) (h3 : φ.lookup "line" = some (.val (.str x) true)) (hx : x.length ≤ 1000000) (hl : ds.length < 1000000) (hw : Txt.words x = [PySem.Str.ofString "put", k, t])
    (hc : (recN tbl consts (n + 27)).fn "check_name" [(.str k, true)] = .ok (.str k, true)) (hp : (recN tbl consts (n + 27)).fn "parse_signed" [(.str t, true)] = .ok (.int v, true)) :
    blk (recN tbl consts (n + 30)) φ tbody = .ok (.next, upd "ops" (.acc (ds ++ [deedV ⟨false, k, v⟩])) (upd "words" (.val (.list [.str (PySem.Str.ofString "put"), .str k, .str t]) true) φ)) := by
  simp [has_succ, blk_nil, blk_cons, next_then, ex_succ, exI, ts_succ, tsI, ev_succ, evI, ok_bind, exc_bind, bad_bind, upd_lookup, cmpV, inV, eqV, eqD, fzV, evs, fzs, truthV, atom_none, atom_bool, atom_int, atom_str, atom_tuple, atom_list, lenV, indexV, allI, anyI, binV, appI, iterI, evIt, condI, bnd1, bndN, loopG_nil, loopG_cons, next_after, cont_after, onInt_ok, onStr_ok, onList_ok, onTup_ok, onO_ok, onTab_ok, onAcc_ok, arg0_ok, arg1_ok, addV, ltV, atV, tbody, h1, h3, hx, hw, methV, lim, put_hash, tryLineI, t_check_name, t_parse_signed, hc, hp, hl, deedV, get_ne]
theorem body_put_exc {k t m : PySem.Str} (h1 : φ.lookup "ops" = some (.acc ds)) (h2 : φ.lookup "number" = some (.val (.int i) f)) (h3 : φ.lookup "line" = some (.val (.str x) true)) (hx : x.length ≤ 1000000) (hi : i.natAbs < 2 ^ 60) (hm : m.length ≤ 100000) (hw : Txt.words x = [PySem.Str.ofString "put", k, t])
    (hc : (recN tbl consts (n + 27)).fn "check_name" [(.str k, true)] = .ok (.str k, true)) (hp : (recN tbl consts (n + 27)).fn "parse_signed" [(.str t, true)] = .exc (m, true)) :
    blk (recN tbl consts (n + 30)) φ tbody = .exc (lineTxt i m, false) := by
  have hi' : i.natAbs < 1152921504606846976 := hi
  simp [has_succ, blk_nil, blk_cons, next_then, ex_succ, exI, ts_succ, tsI, ev_succ, evI, ok_bind, exc_bind, bad_bind, upd_lookup, cmpV, inV, eqV, eqD, fzV, evs, fzs, truthV, atom_none, atom_bool, atom_int, atom_str, atom_tuple, atom_list, lenV, indexV, allI, anyI, binV, appI, iterI, evIt, condI, bnd1, bndN, loopG_nil, loopG_cons, next_after, cont_after, onInt_ok, onStr_ok, onList_ok, onTup_ok, onO_ok, onTab_ok, onAcc_ok, arg0_ok, arg1_ok, addV, ltV, atV, tbody, h1, h2, h3, hx, hw, methV, lim, put_hash, tryLineI, t_check_name, t_parse_signed, hc, hp, hi', hm, lineTxt, get_ne]
theorem body_other {w : PySem.Str} {r : List PySem.Str} (h2 : φ.lookup "number" = some (.val (.int i) f)) (h3 : φ.lookup "line" = some (.val (.str x) true)) (hx : x.length ≤ 1000000) (hi : i.natAbs < 2 ^ 60) (hw : Txt.words x = w :: r) (hh : Txt.startswith w (PySem.Str.ofString "#") = false)
    (hg : w ≠ PySem.Str.ofString "get" ∨ r.length ≠ 1) (hp : w ≠ PySem.Str.ofString "put" ∨ r.length ≠ 2) :
    blk (recN tbl consts (n + 30)) φ tbody = .exc (lineTxt i (PySem.Str.ofString "expected 'get KEY' or 'put KEY VALUE'"), false) := by
  have hi' : i.natAbs < 1152921504606846976 := hi
  have hm : (PySem.Str.ofString "expected 'get KEY' or 'put KEY VALUE'").length ≤ 100000 := by decide
  by_cases e1 : w = PySem.Str.ofString "get"
  · have e2 : r.length ≠ 1 := hg.resolve_left fun z => z e1
    have e2' : ¬ ((r.length : Int) + 1 = 2) := by omega
    have e3 : (PySem.Str.ofString "get" == PySem.Str.ofString "put") = false := by decide
    subst e1
    simp [has_succ, blk_nil, blk_cons, next_then, ex_succ, exI, ts_succ, tsI, ev_succ, evI, ok_bind, exc_bind, bad_bind, upd_lookup, cmpV, inV, eqV, eqD, fzV, evs, fzs, truthV, atom_none, atom_bool, atom_int, atom_str, atom_tuple, atom_list, lenV, indexV, allI, anyI, binV, appI, iterI, evIt, condI, bnd1, bndN, loopG_nil, loopG_cons, next_after, cont_after, onInt_ok, onStr_ok, onList_ok, onTup_ok, onO_ok, onTab_ok, onAcc_ok, arg0_ok, arg1_ok, addV, ltV, atV, tbody, h2, h3, hx, hw, methV, lim, hh, tryLineI, hi', hm, lineTxt, e2', raiseI, e3, get_eq]
  · have e1' := beq_eq_false_iff_ne.mpr e1
    by_cases e2 : w = PySem.Str.ofString "put"
    · have e3 : r.length ≠ 2 := hp.resolve_left fun z => z e2
      have e3' : ¬ ((r.length : Int) + 1 = 3) := by omega
      subst e2
      simp [has_succ, blk_nil, blk_cons, next_then, ex_succ, exI, ts_succ, tsI, ev_succ, evI, ok_bind, exc_bind, bad_bind, upd_lookup, cmpV, inV, eqV, eqD, fzV, evs, fzs, truthV, atom_none, atom_bool, atom_int, atom_str, atom_tuple, atom_list, lenV, indexV, allI, anyI, binV, appI, iterI, evIt, condI, bnd1, bndN, loopG_nil, loopG_cons, next_after, cont_after, onInt_ok, onStr_ok, onList_ok, onTup_ok, onO_ok, onTab_ok, onAcc_ok, arg0_ok, arg1_ok, addV, ltV, atV, tbody, h2, h3, hx, hw, methV, lim, hh, tryLineI, hi', hm, lineTxt, e3', raiseI, e1', put_eq]
    · have e2' := beq_eq_false_iff_ne.mpr e2
      simp [has_succ, blk_nil, blk_cons, next_then, ex_succ, exI, ts_succ, tsI, ev_succ, evI, ok_bind, exc_bind, bad_bind, upd_lookup, cmpV, inV, eqV, eqD, fzV, evs, fzs, truthV, atom_none, atom_bool, atom_int, atom_str, atom_tuple, atom_list, lenV, indexV, allI, anyI, binV, appI, iterI, evIt, condI, bnd1, bndN, loopG_nil, loopG_cons, next_after, cont_after, onInt_ok, onStr_ok, onList_ok, onTup_ok, onO_ok, onTab_ok, onAcc_ok, arg0_ok, arg1_ok, addV, ltV, atV, tbody, h2, h3, hx, hw, methV, lim, hh, tryLineI, hi', hm, lineTxt, raiseI, e1', e2']
end
end L5
end Mine
end

section
set_option Elab.async false
set_option maxRecDepth 100000
namespace Mine
open PySem

/-! ## the words of a text that is laid out -/
noncomputable def spaces (y : PySem.Str) : Bool := y.cps.toList.all fun c => Unicode.isSpace c
noncomputable def solid (y : PySem.Str) : Bool := y.cps.toList.all fun c => !Unicode.isSpace c
theorem app_list (a b : PySem.Str) : (a ++ b).cps.toList = a.cps.toList ++ b.cps.toList := by
  obtain ⟨a⟩ := a; obtain ⟨b⟩ := b
  show (a ++ b).toList = _
  exact Array.toList_append
theorem str_ext {a b : PySem.Str} (h : a.cps.toList = b.cps.toList) : a = b := by
  obtain ⟨a⟩ := a; obtain ⟨b⟩ := b
  exact congrArg PySem.Str.mk (Array.toList_inj.mp h)
theorem app_ass (a b c : PySem.Str) : a ++ b ++ c = a ++ (b ++ c) := str_ext (by simp only [app_list, List.append_assoc])
theorem app_nil (a : PySem.Str) : a ++ PySem.Str.empty = a := str_ext (by rw [app_list]; exact List.append_nil _)
theorem nil_app (a : PySem.Str) : PySem.Str.empty ++ a = a := str_ext (by rw [app_list]; rfl)
theorem len_list (a : PySem.Str) : a.length = a.cps.toList.length := Array.length_toList.symm
theorem fold_solid {ws : List PySem.Str} : ∀ (l : List Nat) (r : PySem.Str), l.all (fun c => !Unicode.isSpace c) = true → l.foldl KWd.step (ws, r) = (ws, r ++ ⟨l.toArray⟩) := by
  intro v0
  induction v0 with
  | nil => intro r _; rw [show (⟨([] : List Nat).toArray⟩ : PySem.Str) = PySem.Str.empty from rfl, app_nil]; rfl
  | cons c l ih =>
    intro r h
    rw [List.all_cons, Bool.and_eq_true, Bool.not_eq_true'] at h
    have e : KWd.step (ws, r) c = (ws, r ++ ⟨#[c]⟩) := if_neg (by rw [h.1]; exact Bool.false_ne_true)
    rw [List.foldl_cons, e, ih _ h.2, app_ass]
    congr 2
    exact str_ext (by rw [app_list]; rfl)
theorem fold_spaces0 {ws : List PySem.Str} {r : PySem.Str} (hr : r.length = 0) : ∀ (l : List Nat), l.all (fun c => Unicode.isSpace c) = true → l.foldl KWd.step (ws, r) = (ws, r) := by
  intro v0
  induction v0 with
  | nil => intro _; exact rfl
  | cons c l ih =>
    intro h
    rw [List.all_cons, Bool.and_eq_true] at h
    have e : KWd.step (ws, r) c = (ws, r) := by unfold KWd.step; rw [if_pos h.1, if_pos hr]
    rw [List.foldl_cons, e]
    exact ih h.2
theorem fold_spaces {ws : List PySem.Str} {r : PySem.Str} (hr : r.length ≠ 0) : ∀ (l : List Nat), l ≠ [] → l.all (fun c => Unicode.isSpace c) = true → l.foldl KWd.step (ws, r) = (ws ++ [r], PySem.Str.empty) := by
  intro v0
  induction v0 with
  | nil => intro h _; exact absurd rfl h
  | cons c l ih =>
    intro _ h
    rw [List.all_cons, Bool.and_eq_true] at h
    have e : KWd.step (ws, r) c = (ws ++ [r], PySem.Str.empty) := by unfold KWd.step; rw [if_pos h.1, if_neg hr]
    rw [List.foldl_cons, e]
    exact fold_spaces0 rfl l h.2
theorem scan_app (a b : PySem.Str) : KWd.scan (a ++ b) = b.cps.toList.foldl KWd.step (KWd.scan a) := by
  unfold KWd.scan
  rw [app_list, List.foldl_append]
theorem words_trim {l0 x l2 : PySem.Str} (h0 : spaces l0 = true) (h2 : spaces l2 = true) : Txt.words (l0 ++ x ++ l2) = Txt.words x := by
  rw [KWd.words_scan, KWd.words_scan, scan_app, scan_app]
  have e0 : KWd.scan l0 = ([], PySem.Str.empty) := fold_spaces0 rfl _ h0
  rw [e0]
  show KWd.fin (List.foldl KWd.step (KWd.scan x) _) = _
  obtain ⟨ws, r⟩ := KWd.scan x
  by_cases hr : r.length = 0
  · rw [fold_spaces0 hr _ h2]
  · by_cases hn : l2.cps.toList = []
    · rw [hn]; rfl
    · rw [fold_spaces hr _ hn h2]
      unfold KWd.fin
      rw [if_pos (show (PySem.Str.empty).length = 0 from rfl), if_neg hr]
theorem words_two {a l b : PySem.Str} (ha : solid a = true) (ha0 : a.length ≠ 0) (hl : spaces l = true) (hl0 : l.cps.toList ≠ []) (hb : solid b = true) (hb0 : b.length ≠ 0) : Txt.words (a ++ l ++ b) = [a, b] := by
  rw [KWd.words_scan, scan_app, scan_app]
  have e0 : KWd.scan a = ([], PySem.Str.empty ++ a) := fold_solid _ _ ha
  rw [e0, nil_app, fold_spaces ha0 _ hl0 hl, fold_solid _ _ hb]
  show KWd.fin ([] ++ [a], PySem.Str.empty ++ b) = _
  rw [nil_app]
  unfold KWd.fin
  rw [if_neg hb0]; rfl
theorem words_three {a l b c : PySem.Str} (ha : solid a = true) (ha0 : a.length ≠ 0) (hl : spaces l = true) (hl0 : l.cps.toList ≠ []) (hb : solid b = true) (hb0 : b.length ≠ 0) (hc : solid c = true) (hc0 : c.length ≠ 0) : Txt.words (a ++ l ++ b ++ l ++ c) = [a, b, c] := by
  rw [KWd.words_scan, scan_app, scan_app, scan_app, scan_app]
  have e0 : KWd.scan a = ([], PySem.Str.empty ++ a) := fold_solid _ _ ha
  rw [e0, nil_app, fold_spaces ha0 _ hl0 hl, fold_solid _ _ hb]
  show KWd.fin (List.foldl KWd.step (List.foldl KWd.step ([] ++ [a], PySem.Str.empty ++ b) _) _) = _
  rw [nil_app, fold_spaces hb0 _ hl0 hl, fold_solid _ _ hc]
  show KWd.fin ([] ++ [a] ++ [b], PySem.Str.empty ++ c) = _
  rw [nil_app]
  unfold KWd.fin
  rw [if_neg hc0]; rfl

/-! ## lines joined, then split -/
noncomputable def joinL (c : Nat) : List (List Nat) → List Nat
  | [] => []
  | [x] => x
  | x :: y :: r => x ++ c :: joinL c (y :: r)
theorem cut_eq {c : Nat} : ∀ {a b r s : List Nat}, c ∉ a → c ∉ b → a ++ c :: r = b ++ c :: s → a = b ∧ r = s
  | [], [], r, s, _, _, h => ⟨rfl, by simpa using h⟩
  | [], y :: b, r, s, _, hb, h => by simp at h; exact absurd h.1 fun z => hb (by rw [z]; exact .head _)
  | x :: a, [], r, s, ha, _, h => by simp at h; exact absurd h.1 fun z => ha (by rw [← z]; exact .head _)
  | x :: a, y :: b, r, s, ha, hb, h => by
    simp only [List.cons_append, List.cons.injEq] at h
    obtain ⟨e, q⟩ := cut_eq (fun z => ha (.tail _ z)) (fun z => hb (.tail _ z)) h.2
    exact ⟨by rw [h.1, e], q⟩
theorem joinL_inj {c : Nat} : ∀ {A B : List (List Nat)}, A ≠ [] → B ≠ [] → (∀ a ∈ A, c ∉ a) → (∀ b ∈ B, c ∉ b) → joinL c A = joinL c B → A = B
  | [], _, h, _, _, _, _ => absurd rfl h
  | _, [], _, h, _, _, _ => absurd rfl h
  | [a], [b], _, _, _, _, h => by simpa [joinL] using h
  | [a], b :: b' :: B, _, _, ha, _, h => by
    simp only [joinL] at h
    exact absurd (show c ∈ a by rw [h]; simp) (ha a (.head _))
  | a :: a' :: A, [b], _, _, _, hb, h => by
    simp only [joinL] at h
    exact absurd (show c ∈ b by rw [← h]; simp) (hb b (.head _))
  | a :: a' :: A, b :: b' :: B, _, _, ha, hb, h => by
    simp only [joinL] at h
    obtain ⟨e, q⟩ := cut_eq (ha a (.head _)) (hb b (.head _)) h
    rw [e, joinL_inj (by simp) (by simp) (fun x hx => ha x (.tail _ hx)) (fun x hx => hb x (.tail _ hx)) q]
theorem join_list (c : Nat) : ∀ xs : List PySem.Str, (PySem.Str.join ⟨#[c]⟩ xs).cps.toList = joinL c (xs.map fun x => x.cps.toList)
  | [] => rfl
  | [x] => rfl
  | x :: y :: r => by
    show (x ++ ⟨#[c]⟩ ++ PySem.Str.join ⟨#[c]⟩ (y :: r)).cps.toList = _
    rw [app_list, app_list, join_list c (y :: r)]
    simp [joinL]
theorem split_join {c : Nat} {xs : List PySem.Str} (h0 : xs ≠ []) (h : ∀ x ∈ xs, c ∉ x.cps.toList) : Txt.split (Txt.join ⟨#[c]⟩ xs) ⟨#[c]⟩ = xs := by
  have e1 : Txt.join ⟨#[c]⟩ xs = PySem.Str.join ⟨#[c]⟩ xs := StrLaws.glued_eq_join _ _
  rw [e1]
  have e2 := StrLaws.join_split (PySem.Str.join ⟨#[c]⟩ xs) ⟨#[c]⟩
  have e3 := congrArg (fun x : PySem.Str => x.cps.toList) e2
  simp only [join_list] at e3
  have e4 : ((Txt.split (PySem.Str.join ⟨#[c]⟩ xs) ⟨#[c]⟩).map fun x => x.cps.toList) = xs.map fun x => x.cps.toList := by
    refine joinL_inj (c := c) ?_ (by simpa using h0) ?_ ?_ e3
    · intro z
      have := PyProof.Rows.split_pos (PySem.Str.join ⟨#[c]⟩ xs) ⟨#[c]⟩
      rw [List.map_eq_nil_iff] at z
      rw [z] at this; simp at this
    · intro a ha
      obtain ⟨x, hx, rfl⟩ := List.mem_map.mp ha
      exact StrLaws.split_free _ c x hx
    · intro a ha
      obtain ⟨x, hx, rfl⟩ := List.mem_map.mp ha
      exact h x hx
  exact List.map_inj_right (fun a b q => str_ext q) |>.mp e4
end Mine
end

section
set_option Elab.async false
set_option linter.unusedSimpArgs false
set_option maxRecDepth 100000
namespace Mine
open PySem
namespace L5
open Mine
theorem cn_name (n : Nat) (a : Fin 4) : (recN tbl consts (n+27)).fn "check_name" [(.str (nameOf a), true)] = .ok (.str (nameOf a), true) := by
  match a with
  | 0 => kernel_rfl
  | 1 => kernel_rfl
  | 2 => kernel_rfl
  | 3 => kernel_rfl
theorem ps_val (n : Nat) (b : Fin 9) : (recN tbl consts (n+27)).fn "parse_signed" [(.str (valOf b).1, true)] = .ok (.int (valOf b).2, true) := by
  match b with
  | 0 => kernel_rfl
  | 1 => kernel_rfl
  | 2 => kernel_rfl
  | 3 => kernel_rfl
  | 4 => kernel_rfl
  | 5 => kernel_rfl
  | 6 => kernel_rfl
  | 7 => kernel_rfl
  | 8 => kernel_rfl
noncomputable def layOf : Fin 3 → PySem.Str × PySem.Str × PySem.Str
  | 0 => (S "", S " ", S "")
  | 1 => (S " ", S "\t", S "\r")
  | 2 => (S "\t", S "  ", S " ")
noncomputable def lineOf (y : Fin 3) (c : Code) : LineD := mkLine (layOf y).1 (layOf y).2.1 (layOf y).2.2 c
theorem lay_sp : ∀ y : Fin 3, spaces (layOf y).1 = true ∧ spaces (layOf y).2.1 = true ∧ spaces (layOf y).2.2 = true ∧ (layOf y).2.1.cps.toList ≠ [] := by decide +kernel
theorem n200 : Txt.mul (S "n") 200 = ⟨(List.replicate 200 110).toArray⟩ := by kernel_rfl
theorem n201 : Txt.mul (S "n") 201 = ⟨(List.replicate 201 110).toArray⟩ := by kernel_rfl
theorem name_solid (a : Fin 4) : solid (nameOf a) = true ∧ (nameOf a).length ≠ 0 ∧ 10 ∉ (nameOf a).cps.toList := by
  match a with
  | 0 => decide +kernel
  | 1 => decide +kernel
  | 2 => decide +kernel
  | 3 => show solid (Txt.mul (S "n") 200) = true ∧ (Txt.mul (S "n") 200).length ≠ 0 ∧ 10 ∉ (Txt.mul (S "n") 200).cps.toList
         rw [n200]; decide +kernel
theorem val_solid : ∀ b : Fin 9, solid (valOf b).1 = true ∧ (valOf b).1.length ≠ 0 ∧ 10 ∉ (valOf b).1.cps.toList := by decide +kernel
theorem w_get (y : Fin 3) (a : Fin 4) : Txt.words (lineOf y (.get a)).text = [S "get", nameOf a] := by
  obtain ⟨h0, h1, h2, h3⟩ := lay_sp y
  obtain ⟨q1, q2, _⟩ := name_solid a
  show Txt.words (_ ++ (S "get" ++ _ ++ nameOf a) ++ _) = _
  rw [words_trim h0 h2, words_two (by decide +kernel) (by decide) h1 h3 q1 q2]
theorem w_put (y : Fin 3) (a : Fin 4) (b : Fin 9) : Txt.words (lineOf y (.put a b)).text = [S "put", nameOf a, (valOf b).1] := by
  obtain ⟨h0, h1, h2, h3⟩ := lay_sp y
  obtain ⟨q1, q2, _⟩ := name_solid a
  obtain ⟨p1, p2, _⟩ := val_solid b
  show Txt.words (_ ++ (S "put" ++ _ ++ nameOf a ++ _ ++ (valOf b).1) ++ _) = _
  rw [words_trim h0 h2, words_three (by decide +kernel) (by decide) h1 h3 q1 q2 p1 p2]
noncomputable def noiseW : Fin 4 → List PySem.Str
  | 0 => []
  | 1 => [S "#", S "put", S "a", S "1"]
  | 2 => []
  | 3 => [S "#"]
noncomputable def badW : Fin 12 → List PySem.Str
  | 0 => [S "take", S "a"]
  | 1 => [S "get"]
  | 2 => [S "get", S "a", S "b"]
  | 3 => [S "put", S "a"]
  | 4 => [S "put", S "a", S "1", S "2"]
  | 5 => [S "put", S "a", S "1000000000000000001"]
  | 6 => [S "put", S "a", S "-1000000000000000001"]
  | 7 => [S "put", S "a", S "10000000000000000000"]
  | 8 => [S "put", S "a", S "--7"]
  | 9 => [S "put", S "a", S "\u0663"]
  | 10 => [S "get", S "a\x7fb"]
  | 11 => [S "get", Txt.mul (S "n") 201]
theorem w_noise0 : ∀ a : Fin 4, Txt.words (noiseOf a) = noiseW a := by decide +kernel
theorem w_noise (y : Fin 3) (a : Fin 4) : Txt.words (lineOf y (.noise a)).text = noiseW a := by
  obtain ⟨h0, h1, h2, h3⟩ := lay_sp y
  show Txt.words (_ ++ noiseOf a ++ _) = _
  rw [words_trim h0 h2, w_noise0]
theorem w_bad0 (a : Fin 12) : Txt.words (badOf a).1 = badW a := by
  match a with
  | 0 => decide +kernel
  | 1 => decide +kernel
  | 2 => decide +kernel
  | 3 => decide +kernel
  | 4 => decide +kernel
  | 5 => decide +kernel
  | 6 => decide +kernel
  | 7 => decide +kernel
  | 8 => decide +kernel
  | 9 => decide +kernel
  | 10 => decide +kernel
  | 11 =>
    show Txt.words (S "get " ++ Txt.mul (S "n") 201) = [S "get", Txt.mul (S "n") 201]
    rw [n201, show S "get " = S "get" ++ S " " from by decide +kernel]
    exact words_two (by decide +kernel) (by decide) (by decide +kernel) (by decide) (by decide +kernel) (by decide +kernel)
theorem w_bad (y : Fin 3) (a : Fin 12) : Txt.words (lineOf y (.bad a)).text = badW a := by
  obtain ⟨h0, h1, h2, h3⟩ := lay_sp y
  show Txt.words (_ ++ (badOf a).1 ++ _) = _
  rw [words_trim h0 h2, w_bad0]
theorem lay_pl : ∀ y : Fin 3, (layOf y).1.length ≤ 10 ∧ (layOf y).2.1.length ≤ 10 ∧ (layOf y).2.2.length ≤ 10 ∧ 10 ∉ (layOf y).1.cps.toList ∧ 10 ∉ (layOf y).2.1.cps.toList ∧ 10 ∉ (layOf y).2.2.cps.toList := by decide +kernel
theorem noise_pl : ∀ a : Fin 4, 10 ∉ (noiseOf a).cps.toList := by decide +kernel
theorem bad_pl (a : Fin 12) : 10 ∉ (badOf a).1.cps.toList := by
  match a with
  | 0 => decide +kernel
  | 1 => decide +kernel
  | 2 => decide +kernel
  | 3 => decide +kernel
  | 4 => decide +kernel
  | 5 => decide +kernel
  | 6 => decide +kernel
  | 7 => decide +kernel
  | 8 => decide +kernel
  | 9 => decide +kernel
  | 10 => decide +kernel
  | 11 =>
    show 10 ∉ (S "get " ++ Txt.mul (S "n") 201).cps.toList
    rw [app_list, n201]; decide +kernel
theorem plain_ok (y : Fin 3) (c : Code) : (lineOf y c).text.length ≤ 1000 ∧ 10 ∉ (lineOf y c).text.cps.toList := by
  obtain ⟨h0, h1, h2, q0, q1, q2⟩ := lay_pl y
  unfold lineOf mkLine
  have e3 : (S "get").length = 3 := rfl
  have e3' : (S "put").length = 3 := rfl
  have g1 : 10 ∉ (S "get").cps.toList := by decide
  have g2 : 10 ∉ (S "put").cps.toList := by decide
  simp only [len_app, app_list, List.mem_append, not_or]
  cases c with
  | get a =>
    have := name_len a
    obtain ⟨_, _, q3⟩ := name_solid a
    simp only [bodyOf, len_app, app_list, List.mem_append, not_or]
    exact ⟨by omega, ⟨q0, ⟨g1, q1⟩, q3⟩, q2⟩
  | put a b =>
    have := name_len a
    have := val_len b
    obtain ⟨_, _, q3⟩ := name_solid a
    obtain ⟨_, _, q4⟩ := val_solid b
    simp only [bodyOf, len_app, app_list, List.mem_append, not_or]
    exact ⟨by omega, ⟨q0, ⟨⟨⟨g2, q1⟩, q3⟩, q1⟩, q4⟩, q2⟩
  | noise a =>
    have := noise_len a
    simp only [bodyOf]
    exact ⟨by omega, ⟨q0, noise_pl a⟩, q2⟩
  | bad a =>
    have := bad_len a
    simp only [bodyOf]
    exact ⟨by omega, ⟨q0, bad_pl a⟩, q2⟩
theorem why_len : ∀ a : Fin 12, (badOf a).2.length ≤ 1000 ∧ (badOf a).2 ≠ S "" := by decide +kernel
theorem cn_a (n : Nat) : (recN tbl consts (n+27)).fn "check_name" [(.str (S "a"), true)] = .ok (.str (S "a"), true) := by kernel_rfl
theorem wb0 (y : Fin 3) : Txt.words (lineOf y (.bad 0)).text = [S "take", S "a"] := (w_bad y 0).trans (by kernel_rfl)
theorem wy0 (y : Fin 3) : (lineOf y (.bad 0)).why = S "expected 'get KEY' or 'put KEY VALUE'" := by kernel_rfl
theorem wb1 (y : Fin 3) : Txt.words (lineOf y (.bad 1)).text = [S "get"] := (w_bad y 1).trans (by kernel_rfl)
theorem wy1 (y : Fin 3) : (lineOf y (.bad 1)).why = S "expected 'get KEY' or 'put KEY VALUE'" := by kernel_rfl
theorem wb2 (y : Fin 3) : Txt.words (lineOf y (.bad 2)).text = [S "get", S "a", S "b"] := (w_bad y 2).trans (by kernel_rfl)
theorem wy2 (y : Fin 3) : (lineOf y (.bad 2)).why = S "expected 'get KEY' or 'put KEY VALUE'" := by kernel_rfl
theorem wb3 (y : Fin 3) : Txt.words (lineOf y (.bad 3)).text = [S "put", S "a"] := (w_bad y 3).trans (by kernel_rfl)
theorem wy3 (y : Fin 3) : (lineOf y (.bad 3)).why = S "expected 'get KEY' or 'put KEY VALUE'" := by kernel_rfl
theorem wb4 (y : Fin 3) : Txt.words (lineOf y (.bad 4)).text = [S "put", S "a", S "1", S "2"] := (w_bad y 4).trans (by kernel_rfl)
theorem wy4 (y : Fin 3) : (lineOf y (.bad 4)).why = S "expected 'get KEY' or 'put KEY VALUE'" := by kernel_rfl
theorem wb5 (y : Fin 3) : Txt.words (lineOf y (.bad 5)).text = [S "put", S "a", S "1000000000000000001"] := (w_bad y 5).trans (by kernel_rfl)
theorem wy5 (y : Fin 3) : (lineOf y (.bad 5)).why = S "a number must lie between -1000000000000000000 and 1000000000000000000" := by kernel_rfl
theorem pb5 (n : Nat) : (recN tbl consts (n+27)).fn "parse_signed" [(.str (S "1000000000000000001"), true)] = .exc (S "a number must lie between -1000000000000000000 and 1000000000000000000", true) := by kernel_rfl
theorem wb6 (y : Fin 3) : Txt.words (lineOf y (.bad 6)).text = [S "put", S "a", S "-1000000000000000001"] := (w_bad y 6).trans (by kernel_rfl)
theorem wy6 (y : Fin 3) : (lineOf y (.bad 6)).why = S "a number must lie between -1000000000000000000 and 1000000000000000000" := by kernel_rfl
theorem pb6 (n : Nat) : (recN tbl consts (n+27)).fn "parse_signed" [(.str (S "-1000000000000000001"), true)] = .exc (S "a number must lie between -1000000000000000000 and 1000000000000000000", true) := by kernel_rfl
theorem wb7 (y : Fin 3) : Txt.words (lineOf y (.bad 7)).text = [S "put", S "a", S "10000000000000000000"] := (w_bad y 7).trans (by kernel_rfl)
theorem wy7 (y : Fin 3) : (lineOf y (.bad 7)).why = S "a number must lie between -1000000000000000000 and 1000000000000000000" := by kernel_rfl
theorem pb7 (n : Nat) : (recN tbl consts (n+27)).fn "parse_signed" [(.str (S "10000000000000000000"), true)] = .exc (S "a number must lie between -1000000000000000000 and 1000000000000000000", true) := by kernel_rfl
theorem wb8 (y : Fin 3) : Txt.words (lineOf y (.bad 8)).text = [S "put", S "a", S "--7"] := (w_bad y 8).trans (by kernel_rfl)
theorem wy8 (y : Fin 3) : (lineOf y (.bad 8)).why = S "not a whole number: '--7'" := by kernel_rfl
theorem pb8 (n : Nat) : (recN tbl consts (n+27)).fn "parse_signed" [(.str (S "--7"), true)] = .exc (S "not a whole number: '--7'", true) := by kernel_rfl
theorem wb9 (y : Fin 3) : Txt.words (lineOf y (.bad 9)).text = [S "put", S "a", S "\u0663"] := (w_bad y 9).trans (by kernel_rfl)
theorem wy9 (y : Fin 3) : (lineOf y (.bad 9)).why = S "not a whole number: '\\u0663'" := by kernel_rfl
theorem pb9 (n : Nat) : (recN tbl consts (n+27)).fn "parse_signed" [(.str (S "\u0663"), true)] = .exc (S "not a whole number: '\\u0663'", true) := by kernel_rfl
theorem wb10 (y : Fin 3) : Txt.words (lineOf y (.bad 10)).text = [S "get", S "a\x7fb"] := (w_bad y 10).trans (by kernel_rfl)
theorem wy10 (y : Fin 3) : (lineOf y (.bad 10)).why = S "a name may hold printable characters only: 'a\\x7fb'" := by kernel_rfl
theorem pb10 (n : Nat) : (recN tbl consts (n+27)).fn "check_name" [(.str (S "a\x7fb"), true)] = .exc (S "a name may hold printable characters only: 'a\\x7fb'", true) := by kernel_rfl
theorem wb11 (y : Fin 3) : Txt.words (lineOf y (.bad 11)).text = [S "get", Txt.mul (S "n") 201] := (w_bad y 11).trans rfl
theorem wy11 (y : Fin 3) : (lineOf y (.bad 11)).why = S "a name may have at most 200 characters" := by kernel_rfl
theorem pb11 (n : Nat) : (recN tbl consts (n+27)).fn "check_name" [(.str (Txt.mul (S "n") 201), true)] = .exc (S "a name may have at most 200 characters", true) := by rw [n201]; kernel_rfl
section
variable {n : Nat} {φ : Frm} {ds : List V} {i : Int} {f : Bool}
theorem turn_bad (y : Fin 3) (h1 : φ.lookup "ops" = some (.acc ds)) (h2 : φ.lookup "number" = some (.val (.int i) f)) (hi : i.natAbs < 2 ^ 60) (a : Fin 12) : φ.lookup "line" = some (.val (.str (lineOf y (.bad a)).text) true) → (lineOf y (.bad a)).text.length ≤ 1000000 → blk (recN tbl consts (n + 30)) φ tbody = .exc (lineTxt i (lineOf y (.bad a)).why, false) := by
  match a with
  | 0 => intro h3 hx; rw [wy0]; exact body_other h2 h3 hx hi (wb0 y) (by decide +kernel) (by decide +kernel) (by decide +kernel)
  | 1 => intro h3 hx; rw [wy1]; exact body_other h2 h3 hx hi (wb1 y) (by decide +kernel) (by decide +kernel) (by decide +kernel)
  | 2 => intro h3 hx; rw [wy2]; exact body_other h2 h3 hx hi (wb2 y) (by decide +kernel) (by decide +kernel) (by decide +kernel)
  | 3 => intro h3 hx; rw [wy3]; exact body_other h2 h3 hx hi (wb3 y) (by decide +kernel) (by decide +kernel) (by decide +kernel)
  | 4 => intro h3 hx; rw [wy4]; exact body_other h2 h3 hx hi (wb4 y) (by decide +kernel) (by decide +kernel) (by decide +kernel)
  | 5 => intro h3 hx; rw [wy5]; exact body_put_exc h1 h2 h3 hx hi (by decide +kernel) (wb5 y) (cn_a n) (pb5 n)
  | 6 => intro h3 hx; rw [wy6]; exact body_put_exc h1 h2 h3 hx hi (by decide +kernel) (wb6 y) (cn_a n) (pb6 n)
  | 7 => intro h3 hx; rw [wy7]; exact body_put_exc h1 h2 h3 hx hi (by decide +kernel) (wb7 y) (cn_a n) (pb7 n)
  | 8 => intro h3 hx; rw [wy8]; exact body_put_exc h1 h2 h3 hx hi (by decide +kernel) (wb8 y) (cn_a n) (pb8 n)
  | 9 => intro h3 hx; rw [wy9]; exact body_put_exc h1 h2 h3 hx hi (by decide +kernel) (wb9 y) (cn_a n) (pb9 n)
  | 10 => intro h3 hx; rw [wy10]; exact body_get_exc h1 h2 h3 hx hi (by decide +kernel) (wb10 y) (pb10 n)
  | 11 => intro h3 hx; rw [wy11]; exact body_get_exc h1 h2 h3 hx hi (by decide +kernel) (wb11 y) (pb11 n)
end
/-- what the reading of one line does -/
noncomputable def Turn (n : Nat) (φ : Frm) (ds : List V) (i : Int) (l : LineD) : Prop :=
  (l.why = S "" ∧ ∃ fl φ', (fl = .next ∨ fl = .cont) ∧ blk (recN tbl consts (n + 30)) φ tbody = .ok (fl, φ') ∧ φ'.lookup "ops" = some (.acc (ds ++ l.deed.toList.map deedV)) ∧ φ'.lookup "text" = φ.lookup "text") ∨
  (l.why ≠ S "" ∧ l.deed = none ∧ blk (recN tbl consts (n + 30)) φ tbody = .exc (lineTxt i l.why, false))
section
variable {n : Nat} {φ : Frm} {ds : List V} {i : Int} {f : Bool}
theorem turn_line (y : Fin 3) (h1 : φ.lookup "ops" = some (.acc ds)) (h2 : φ.lookup "number" = some (.val (.int i) f)) (hl : ds.length < 1000000) (hi : i.natAbs < 2 ^ 60) : ∀ c : Code, φ.lookup "line" = some (.val (.str (lineOf y c).text) true) → Turn n φ ds i (lineOf y c) := by
  intro c h3
  have hx : (lineOf y c).text.length ≤ 1000000 := by
    have := (plain_ok y c).1
    omega
  cases c with
  | get a =>
    refine .inl ⟨rfl, _, _, .inl rfl, body_get h1 h3 hx hl (w_get y a) (cn_name n a), by simp [upd_lookup]; rfl, by simp [upd_lookup]⟩
  | put a b =>
    refine .inl ⟨rfl, _, _, .inl rfl, body_put h1 h3 hx hl (w_put y a b) (cn_name n a) (ps_val n b), by simp [upd_lookup]; rfl, by simp [upd_lookup]⟩
  | noise a =>
    have hd : (lineOf y (.noise a)).deed.toList.map deedV = [] := rfl
    refine .inl ⟨rfl, ?_⟩
    rw [hd, List.append_nil]
    match a with
    | 0 => exact ⟨_, _, .inr rfl, body_nil h3 hx (w_noise y 0), by simp [upd_lookup, h1], by simp [upd_lookup]⟩
    | 1 => exact ⟨_, _, .inr rfl, body_hash h3 hx (w_noise y 1) (by decide +kernel), by simp [upd_lookup, h1], by simp [upd_lookup]⟩
    | 2 => exact ⟨_, _, .inr rfl, body_nil h3 hx (w_noise y 2), by simp [upd_lookup, h1], by simp [upd_lookup]⟩
    | 3 => exact ⟨_, _, .inr rfl, body_hash h3 hx (w_noise y 3) (by decide +kernel), by simp [upd_lookup, h1], by simp [upd_lookup]⟩
  | bad a => exact .inr ⟨(why_len a).2, rfl, turn_bad y h1 h2 hi a h3 hx⟩
end
end L5
end Mine
end

section
set_option Elab.async false
set_option linter.unusedSimpArgs false
set_option maxRecDepth 100000
namespace Mine
open PySem
namespace L5
open Mine
noncomputable def deedsL (cs : List Code) : List Deed := cs.flatMap fun c => (deedOf c).toList
noncomputable def firstBad : List Code → Nat → Option (Nat × PySem.Str)
  | [], _ => none
  | c :: cs, k => if whyOf c ≠ S "" then some (k, whyOf c) else firstBad cs (k + 1)
noncomputable def textsOf (y : Fin 3) (cs : List Code) : List PySem.Str := cs.map fun c => (lineOf y c).text
noncomputable def turnsOf (y : Fin 3) (cs : List Code) (k : Nat) : List (V × Bool) := (cs.zipIdx k).map fun p => (V.tuple [.int ((p.2 : Int) + 1), .str (lineOf y p.1).text], true)
section
variable {n : Nat} {y : Fin 3} {f : Bool}
theorem loop_read : ∀ (cs : List Code) (k : Nat) (φ : Frm) (ds : List V), φ.lookup "ops" = some (.acc ds) → ds.length + cs.length ≤ 900 → k + cs.length ≤ 900 →
    (firstBad cs k = none ∧ ∃ φ', loopG (recN tbl consts (n+30)) (bndN ["number", "line"]) tbody φ (turnsOf y cs k) = .ok (.next, φ') ∧ φ'.lookup "ops" = some (.acc (ds ++ (deedsL cs).map deedV))) ∨
    (∃ j w, firstBad cs k = some (j, w) ∧ loopG (recN tbl consts (n+30)) (bndN ["number", "line"]) tbody φ (turnsOf y cs k) = .exc (lineTxt ((j : Int) + 1) w, false)) := by
  intro v0
  induction v0 with
  | nil => intro k φ ds h1 _ _; exact .inl ⟨rfl, φ, rfl, by rw [h1]; simp [deedsL]⟩
  | cons c cs ih =>
    intro k φ ds h1 hl hk
    simp only [List.length_cons] at hl hk
    have hu : turnsOf y (c :: cs) k = (V.tuple [.int ((k : Int) + 1), .str (lineOf y c).text], true) :: turnsOf y cs (k + 1) := rfl
    have hb : bndN ["number", "line"] (V.tuple [.int ((k : Int) + 1), .str (lineOf y c).text], true) φ = .ok (upd "line" (.val (.str (lineOf y c).text) true) (upd "number" (.val (.int ((k : Int) + 1)) true) φ)) := rfl
    have ht := turn_line (n := n) (φ := upd "line" (.val (.str (lineOf y c).text) true) (upd "number" (.val (.int ((k : Int) + 1)) true) φ)) (ds := ds) (i := (k : Int) + 1) (f := true) y (by simp [upd_lookup, h1]) (by simp [upd_lookup]) (by omega) (by omega) c (by simp [upd_lookup])
    have hw : (lineOf y c).why = whyOf c := rfl
    have hd : (lineOf y c).deed = deedOf c := rfl
    rcases ht with ⟨w0, fl, φ₁, hfl, q1, q2, _⟩ | ⟨w1, d0, q1⟩
    · rw [hw] at w0
      rw [hd] at q2
      have hstep : loopG (recN tbl consts (n+30)) (bndN ["number", "line"]) tbody φ (turnsOf y (c :: cs) k) = loopG (recN tbl consts (n+30)) (bndN ["number", "line"]) tbody φ₁ (turnsOf y cs (k + 1)) := by
        rw [hu, loopG_cons, hb, ok_bind, q1, ok_bind]
        rcases hfl with rfl | rfl <;> rfl
      have hlen : (deedOf c).toList.length ≤ 1 := by cases deedOf c <;> simp
      rw [hstep]
      have e : firstBad (c :: cs) k = firstBad cs (k + 1) := if_neg fun z => z w0
      rw [e]
      rcases ih (k + 1) φ₁ _ q2 (by simp; omega) (by omega) with ⟨a1, φ', a2, a3⟩ | ⟨j, w, a1, a2⟩
      · refine .inl ⟨a1, φ', a2, ?_⟩
        rw [a3]
        simp [deedsL]
      · exact .inr ⟨j, w, a1, a2⟩
    · rw [hw] at w1 q1
      refine .inr ⟨k, whyOf c, if_pos w1, ?_⟩
      rw [hu, loopG_cons, hb, ok_bind, q1]; rfl
theorem nl : S "\n" = ⟨#[10]⟩ := by decide
theorem texts_sum (y : Fin 3) : ∀ cs : List Code, ((textsOf y cs).map (·.length)).sum ≤ 1000 * cs.length := by
  intro v0
  induction v0 with
  | nil => simp [textsOf]
  | cons c cs ih =>
    have := ih
    have := (plain_ok y c).1
    show (lineOf y c).text.length + ((textsOf y cs).map (·.length)).sum ≤ _
    simp only [List.length_cons]; omega
theorem join_len (y : Fin 3) (cs : List Code) (h : cs.length ≤ 100) : (Txt.join (S "\n") (textsOf y cs)).length ≤ 1000000 := by
  have e1 : Txt.join (S "\n") (textsOf y cs) = PySem.Str.join (S "\n") (textsOf y cs) := StrLaws.glued_eq_join _ _
  rw [e1]
  have := StrLaws.join_length_le (S "\n") (textsOf y cs)
  have h2 := texts_sum y cs
  have e2 : (S "\n").length = 1 := rfl
  have e3 : (textsOf y cs).length = cs.length := List.length_map _
  rw [e2, e3] at this
  omega
theorem split_ok (y : Fin 3) {cs : List Code} (h : cs ≠ []) : Txt.split (Txt.join (S "\n") (textsOf y cs)) (S "\n") = textsOf y cs := by
  rw [nl]
  refine split_join (by simpa [textsOf] using h) fun x hx => ?_
  obtain ⟨c, _, rfl⟩ := List.mem_map.mp hx
  exact (plain_ok y c).2
theorem t_read_trace : tbl "read_trace" = some (["text"], b_read_trace) := rfl
theorem zip_turns (y : Fin 3) : ∀ (cs : List Code) (k : Nat), (((textsOf y cs).map V.str).zipIdx k).map (fun p => (V.tuple [.int ((p.2 : Int) + 1), p.1], true)) = turnsOf y cs k := by
  intro v0
  induction v0 with
  | nil => intro _; exact rfl
  | cons c cs ih =>
    intro k
    show _ :: (((textsOf y cs).map V.str).zipIdx (k + 1)).map _ = _ :: turnsOf y cs (k + 1)
    rw [ih (k + 1)]
noncomputable def readR (cs : List Code) : Res (V × Bool) := match firstBad cs 0 with
  | none => .ok (.list ((deedsL cs).map deedV), true)
  | some (j, w) => .exc (lineTxt ((j : Int) + 1) w, false)
theorem read_ok (cs : List Code) (h0 : cs ≠ []) (hl : cs.length ≤ 100) : (recN tbl consts (n + 32)).fn "read_trace" [(.str (Txt.join (S "\n") (textsOf y cs)), f)] = readR cs := by
  have hlen := join_len y cs hl
  have hsp := split_ok y h0
  have e : b_read_trace = [.newAcc "ops", .forN ["number", "line"] (.enum (.meth .split1 (.var "text") [.const (.str (S "\n"))])) tbody, .ret (.var "ops")] := rfl
  have e2 : (textsOf y cs).length ≤ 1000000 := by rw [show (textsOf y cs).length = cs.length from List.length_map _]; omega
  have e3 : (S "\n").length ≠ 0 := by decide
  have e4 := zip_turns y cs 0
  unfold readR
  rcases loop_read (n := n) (y := y) cs 0 [("text", .val (.str (Txt.join (S "\n") (textsOf y cs))) f), ("ops", .acc [])] [] rfl (by simp; omega) (by omega) with ⟨a1, φ', a2, a3⟩ | ⟨j, w, a1, a2⟩
  · rw [a1]
    simp [fn_succ, fnI, t_read_trace, e, blk_nil, blk_cons, next_then, ex_succ, exI, ev_succ, evI, ok_bind, upd, List.lookup_cons, iterI, evIt, evs, methV, lim, hlen, hsp, e2, e3, e4, a2, a3, freeze_lookup, frz, ret_then, onInt_ok, onStr_ok, onList_ok, onTup_ok, onO_ok, onTab_ok, onAcc_ok, arg0_ok, arg1_ok, addV, ltV]
  · rw [a1]
    simp [fn_succ, fnI, t_read_trace, e, blk_nil, blk_cons, next_then, ex_succ, exI, ev_succ, evI, ok_bind, exc_bind, upd, List.lookup_cons, iterI, evIt, evs, methV, lim, hlen, hsp, e2, e3, e4, a2, onInt_ok, onStr_ok, onList_ok, onTup_ok, onO_ok, onTab_ok, onAcc_ok, arg0_ok, arg1_ok, addV, ltV]
theorem t_law_read : tbl "_law_read" = some (["text"], b_law_read) := rfl
noncomputable def gotV (cs : List Code) : V := match firstBad cs 0 with
  | none => .tuple [.list ((deedsL cs).map deedV), .str (S "")]
  | some (j, w) => .tuple [.none, .str (lineTxt ((j : Int) + 1) w)]
theorem law_read_ok (cs : List Code) (h0 : cs ≠ []) (hl : cs.length ≤ 100) : (recN tbl consts (n + 36)).fn "_law_read" [(.str (Txt.join (S "\n") (textsOf y cs)), f)] = .ok (gotV cs, true) := by
  have q := read_ok (n := n + 1) (y := y) (f := f) cs h0 hl
  rw [show n + 36 = (n + 35) + 1 from rfl, fn_succ]
  unfold gotV
  unfold readR at q
  cases hb : firstBad cs 0 with
  | none =>
    rw [hb] at q
    simp [fnI, t_law_read, b_law_read, blk_nil, blk_cons, next_then, ex_succ, exI, ev_succ, evI, ok_bind, upd, List.lookup_cons, evs, lim, has_succ, t_read_trace, q, fzV, freeze, ret_then, onInt_ok, onStr_ok, onList_ok, onTup_ok, onO_ok, onTab_ok, onAcc_ok, arg0_ok, arg1_ok, addV, ltV]
  | some p =>
    obtain ⟨j, w⟩ := p
    rw [hb] at q
    simp [fnI, t_law_read, b_law_read, blk_nil, blk_cons, next_then, ex_succ, exI, ev_succ, evI, ok_bind, exc_bind, upd, List.lookup_cons, evs, lim, has_succ, t_read_trace, q, fzV, freeze, ret_then, onInt_ok, onStr_ok, onList_ok, onTup_ok, onO_ok, onTab_ok, onAcc_ok, arg0_ok, arg1_ok, addV, ltV]
theorem join_one (x : PySem.Str) : Txt.join (S "\n") [x] = x := rfl
theorem law_read_one (c : Code) : (recN tbl consts (n + 36)).fn "_law_read" [(.str (lineOf y c).text, f)] = .ok (gotV [c], true) := law_read_ok (y := y) [c] (by simp) (by simp)
end
end L5
end Mine
end

section
set_option Elab.async false
set_option linter.unusedSimpArgs false
set_option maxRecDepth 100000
namespace Mine
open PySem
/-- data that == knows -/
noncomputable def niceK : Nat → V → Bool
  | _, .none => true
  | _, .bool _ => true
  | _, .int _ => true
  | _, .str x => PyData.strOk x
  | k + 1, .tuple ds => ds.all (niceK k)
  | k + 1, .list ds => ds.all (niceK k)
  | _, _ => false
theorem niceK_pys {k : Nat} (H : ∀ d : V, niceK k d = true → ∃ p, V.py d = some p ∧ p.canLay0 = true ∧ p.depth ≤ k) (ds : List V) (h : ∀ d ∈ ds, niceK k d = true) : ∃ ps, V.pys ds = some ps ∧ PyData.canLayAll0 ps = true ∧ PyData.depthAll ps ≤ k := by
  induction ds with
  | nil => exact ⟨[], rfl, rfl, Nat.zero_le _⟩
  | cons d ds ih =>
    obtain ⟨p, e, h1, h2⟩ := H d (h d (.head _))
    obtain ⟨ps, e', h1', h2'⟩ := ih fun x hx => h x (.tail _ hx)
    exact ⟨p :: ps, by simp [V.pys, e, e'], by simp [PyData.canLayAll0, h1, h1'], by simp [PyData.depthAll]; omega⟩
theorem niceK_py (k : Nat) : ∀ d : V, niceK k d = true → ∃ p, V.py d = some p ∧ p.canLay0 = true ∧ p.depth ≤ k := by
  induction k with
  | zero =>
    intro d h
    cases d with
    | none => exact ⟨.none, rfl, rfl, Nat.zero_le _⟩
    | bool b => exact ⟨.bool b, rfl, rfl, Nat.zero_le _⟩
    | int i => exact ⟨.int i, rfl, rfl, Nat.zero_le _⟩
    | str x => exact ⟨.str x, rfl, by simpa [PyData.canLay0, niceK] using h, by simp [PyData.depth]⟩
    | tuple ds => cases h
    | list ds => cases h
    | dict ds => cases h
  | succ k ih =>
    intro d h
    cases d with
    | none => exact ⟨.none, rfl, rfl, Nat.zero_le _⟩
    | bool b => exact ⟨.bool b, rfl, rfl, Nat.zero_le _⟩
    | int i => exact ⟨.int i, rfl, rfl, Nat.zero_le _⟩
    | str x => exact ⟨.str x, rfl, by simpa [PyData.canLay0, niceK] using h, by simp [PyData.depth]⟩
    | tuple ds =>
      obtain ⟨ps, e, h1, h2⟩ := niceK_pys ih ds (by simpa [niceK] using h)
      exact ⟨.tuple ps, by simp [V.py, e], by simpa [PyData.canLay0] using h1, by simp [PyData.depth]; omega⟩
    | list ds =>
      obtain ⟨ps, e, h1, h2⟩ := niceK_pys ih ds (by simpa [niceK] using h)
      exact ⟨.list ps, by simp [V.py, e], by simpa [PyData.canLay0] using h1, by simp [PyData.depth]; omega⟩
    | dict ds => cases h
theorem eqD_refl {mk : List PyData → PyData} {ds : List V} {ps : List PyData} (e : V.pys ds = some ps) (h1 : (mk ps).canLay0 = true) (h2 : (mk ps).depth ≤ 20) : eqD mk ds ds = .ok true := by
  have sh : SeqAt.shaped (mk ps) = true := by unfold SeqAt.shaped; rw [h1]; simp; omega
  unfold eqD
  rw [e]
  exact (if_pos ⟨sh, sh⟩).trans (by rw [SeqAt.eqv_refl _ h1])
theorem eq_tuple {ds : List V} (h : niceK 20 (.tuple ds) = true) : eqV (.tuple ds) (.tuple ds) = .ok true := by
  obtain ⟨p, e, h1, h2⟩ := niceK_py _ _ h
  obtain ⟨ps, e', _, _⟩ := niceK_pys (niceK_py 19) ds (by simpa [niceK] using h)
  have ep : p = .tuple ps := by simp [V.py, e'] at e; exact e.symm
  subst ep
  exact eqD_refl (mk := .tuple) e' h1 h2
theorem eq_list {ds : List V} (h : niceK 20 (.list ds) = true) : eqV (.list ds) (.list ds) = .ok true := by
  obtain ⟨p, e, h1, h2⟩ := niceK_py _ _ h
  obtain ⟨ps, e', _, _⟩ := niceK_pys (niceK_py 19) ds (by simpa [niceK] using h)
  have ep : p = .list ps := by simp [V.py, e'] at e; exact e.symm
  subst ep
  exact eqD_refl (mk := .list) e' h1 h2
theorem blk_app {r : Rec} : ∀ {a b : List IS} {φ : Frm}, blk r φ (a ++ b) = (blk r φ a).bind (thenB r b) := by
  intro v0
  induction v0 with
  | nil => intro b φ; exact rfl
  | cons i a ih =>
    intro b φ
    rw [List.cons_append, blk_cons, blk_cons]
    cases r.ex φ i with
    | bad => rfl
    | exc m => rfl
    | ok p =>
      obtain ⟨fl, ψ⟩ := p
      cases fl with
      | next => exact ih
      | cont => rfl
      | brk => rfl
      | ret d f => rfl
namespace L5
open Mine
theorem name_nice (a : Fin 4) : PyData.strOk (nameOf a) = true := by
  match a with
  | 0 => decide +kernel
  | 1 => decide +kernel
  | 2 => decide +kernel
  | 3 => show PyData.strOk (Txt.mul (S "n") 200) = true
         rw [n200]; decide +kernel
theorem deeds_nice (cs : List Code) : ∀ d ∈ deedsL cs, PyData.strOk d.key = true := by
  intro d hd
  obtain ⟨c, _, h⟩ := List.mem_flatMap.mp hd
  cases c with
  | get a => simp only [deedOf, Option.toList_some, List.mem_singleton] at h; subst h; exact name_nice a
  | put a b => simp only [deedOf, Option.toList_some, List.mem_singleton] at h; subst h; exact name_nice a
  | noise a => simp [deedOf] at h
  | bad a => simp [deedOf] at h
theorem deedsL_nice (cs : List Code) (k : Nat) : ∀ d ∈ (deedsL cs).map deedV, niceK (k + 2) d = true := by
  intro v hv
  obtain ⟨d, hd, rfl⟩ := List.mem_map.mp hv
  have h1 := deeds_nice cs d hd
  have h2 : PyData.strOk (if d.get = true then PySem.Str.ofString "get" else PySem.Str.ofString "put") = true := by split <;> decide +kernel
  simp [niceK, deedV, h1, h2]
theorem why_nice (c : Code) : PyData.strOk (whyOf c) = true ∧ (whyOf c).length ≤ 1000 := by
  cases c with
  | bad a => exact (by decide +kernel : ∀ a : Fin 12, PyData.strOk (badOf a).2 = true ∧ (badOf a).2.length ≤ 1000) a
  | get a => exact (by decide +kernel : PyData.strOk (S "") = true ∧ (S "").length ≤ 1000)
  | put a b => exact (by decide +kernel : PyData.strOk (S "") = true ∧ (S "").length ≤ 1000)
  | noise a => exact (by decide +kernel : PyData.strOk (S "") = true ∧ (S "").length ≤ 1000)
end L5
end Mine
end

section
set_option Elab.async false
set_option linter.unusedSimpArgs false
set_option maxRecDepth 100000
namespace Mine
open PySem
namespace L5
open Mine
/-! ## the room -/
noncomputable def rt : Fin 12 → PySem.Str
  | 0 => S "1" | 1 => S "2" | 2 => S "3" | 3 => S "02" | 4 => S "003" | 5 => S "1000000000000000000" | 6 => S "0" | 7 => S "-1" | 8 => S "1000000000000000001" | 9 => S "\u0662" | 10 => S "" | 11 => S "-"
noncomputable def rv : Fin 12 → Option Int
  | 0 => some 1 | 1 => some 2 | 2 => some 3 | 3 => some 2 | 4 => some 3 | 5 => some 1000000000000000000 | _ => none
noncomputable def rw' : Fin 12 → PySem.Str
  | 0 => S "" | 1 => S "" | 2 => S "" | 3 => S "" | 4 => S "" | 5 => S ""
  | 6 => S "a number must lie between 1 and 1000000000000000000" | 7 => S "a number must lie between 1 and 1000000000000000000" | 8 => S "a number must lie between 1 and 1000000000000000000"
  | 9 => S "not a whole number: '\\u0662'" | 10 => S "not a whole number: ''" | 11 => S "not a whole number: '-'"
noncomputable def optV : Option Int → V
  | some i => .int i
  | none => .none
noncomputable def roomsT : List V := [0, 1, 2, 3, 4, 5, 6, 7, 8, 9, 10, 11].map fun i : Fin 12 => .tuple [.str (rt i), optV (rv i), .str (rw' i)]
theorem c_rooms : consts "_law_rooms" = some (.tuple roomsT) := by kernel_rfl
theorem room_idx (i : Fin 12) : indexV (.tuple roomsT) (.int ((i.val : Nat) : Int)) = .ok (.tuple [.str (rt i), optV (rv i), .str (rw' i)]) := by
  match i with
  | 0 => rfl
  | 1 => rfl
  | 2 => rfl
  | 3 => rfl
  | 4 => rfl
  | 5 => rfl
  | 6 => rfl
  | 7 => rfl
  | 8 => rfl
  | 9 => rfl
  | 10 => rfl
  | 11 => rfl
theorem room_ok (n : Nat) (i : Fin 12) : (recN tbl consts (n + 40)).fn "_law_room" [(.str (rt i), true)] = .ok (.tuple [optV (rv i), .str (rw' i)], true) := by
  match i with
  | 0 => kernel_rfl
  | 1 => kernel_rfl
  | 2 => kernel_rfl
  | 3 => kernel_rfl
  | 4 => kernel_rfl
  | 5 => kernel_rfl
  | 6 => kernel_rfl
  | 7 => kernel_rfl
  | 8 => kernel_rfl
  | 9 => kernel_rfl
  | 10 => kernel_rfl
  | 11 => kernel_rfl
theorem room_nice : ∀ i : Fin 12, niceK 20 (.tuple [optV (rv i), .str (rw' i)]) = true := by decide +kernel
theorem room_pos : ∀ (i : Fin 12) (c : Int), rv i = some c → 1 ≤ c := by
  intro i
  match i with
  | 0 => intro c h; cases h; decide
  | 1 => intro c h; cases h; decide
  | 2 => intro c h; cases h; decide
  | 3 => intro c h; cases h; decide
  | 4 => intro c h; cases h; decide
  | 5 => intro c h; cases h; decide
  | 6 => intro c h; cases h
  | 7 => intro c h; cases h
  | 8 => intro c h; cases h
  | 9 => intro c h; cases h
  | 10 => intro c h; cases h
  | 11 => intro c h; cases h
noncomputable def seg1 : List IS := [.assign "row" (.index (.glob "_law_rooms") (.bin .mod (.index (.var "script") (.const (.int 0))) (.const (.int 12)))),
  .assign "got" (.call "_law_room" [.index (.var "row") (.const (.int 0))]),
  .ite (.cmp .ne (.var "got") (.tuple [.index (.var "row") (.const (.int 1)),
  .index (.var "row") (.const (.int 2))])) [.ret (.const (.bool false))] [],
  .assign "room" (.const (.int 2)),
  .ite (.isNone (.index (.var "row") (.const (.int 1))) false) [.ite (.typeIs (.index (.var "got") (.const (.int 0))) "int" false) [.ret (.const (.bool false))] [],
  .assign "room" (.index (.var "got") (.const (.int 0)))] []]
theorem t_law_room : tbl "_law_room" = some (["text"], b_law_room) := rfl
section
variable {n : Nat} {φ : Frm} {sc : List V} {s0 : Int}
theorem seg1_ok (h : φ.lookup "script" = some (.val (.list sc) true)) (h0 : indexV (.list sc) (.int 0) = .ok (.int s0)) :
    ∃ φ' cap, 1 ≤ cap ∧ blk (recN tbl consts (n + 50)) φ seg1 = .ok (.next, φ') ∧ φ'.lookup "script" = some (.val (.list sc) true) ∧ φ'.lookup "room" = some (.val (.int cap) true) := by
  obtain ⟨i, hi⟩ := fmod_fin s0 12 (by decide)
  have hi : s0.fmod 12 = ((i.val : Nat) : Int) := hi
  have q1 := room_ok (n + 8) i
  have q2 := eq_tuple (room_nice i)
  cases hv : rv i with
  | none =>
    rw [hv] at q1 q2
    simp only [optV] at q1 q2
    refine ⟨upd "room" (.val (.int 2) true) (upd "got" (.val (.tuple [.none, .str (rw' i)]) true) (upd "row" (.val (.tuple [.str (rt i), .none, .str (rw' i)]) true) φ)), 2, by decide, ?_, by simp [upd_lookup, h], by simp [upd_lookup]⟩
    simp [seg1, blk_nil, blk_cons, next_then, ex_succ, exI, ts_succ, tsI, ev_succ, evI, ok_bind, upd_lookup, cmpV, fzV, evs, binV, h, h0, hi, c_rooms, room_idx, hv, optV, idx30, idx31, idx32, has_succ, t_law_room, q1, q2, lim, atom_none, atom_str, atom_int, onInt_ok, onStr_ok, onList_ok, onTup_ok, onO_ok, onTab_ok, onAcc_ok, arg0_ok, arg1_ok, addV, ltV]
  | some c =>
    rw [hv] at q1 q2
    simp only [optV] at q1 q2
    refine ⟨upd "room" (.val (.int c) true) (upd "room" (.val (.int 2) true) (upd "got" (.val (.tuple [.int c, .str (rw' i)]) true) (upd "row" (.val (.tuple [.str (rt i), .int c, .str (rw' i)]) true) φ))), c, room_pos i c hv, ?_, by simp [upd_lookup, h], by simp [upd_lookup]⟩
    simp [seg1, blk_nil, blk_cons, next_then, ex_succ, exI, ts_succ, tsI, ev_succ, evI, ok_bind, upd_lookup, cmpV, fzV, evs, binV, h, h0, hi, c_rooms, room_idx, hv, optV, idx30, idx31, idx32, idx20, has_succ, t_law_room, q1, q2, lim, atom_none, atom_str, atom_int, typeV, onInt_ok, onStr_ok, onList_ok, onTup_ok, onO_ok, onTab_ok, onAcc_ok, arg0_ok, arg1_ok, addV, ltV]
end
end L5
end Mine
end

section
set_option Elab.async false
set_option linter.unusedSimpArgs false
set_option maxRecDepth 100000
namespace Mine
open PySem
namespace L5
open Mine
/-! ## the lines -/
noncomputable def laysT : List V := [0, 1, 2].map fun i : Fin 3 => .tuple [.str (layOf i).1, .str (layOf i).2.1, .str (layOf i).2.2]
theorem c_lays : consts "_law_layouts" = some (.tuple laysT) := by kernel_rfl
theorem lay_idx (i : Fin 3) : indexV (.tuple laysT) (.int ((i.val : Nat) : Int)) = .ok (.tuple [.str (layOf i).1, .str (layOf i).2.1, .str (layOf i).2.2]) := by
  match i with
  | 0 => rfl
  | 1 => rfl
  | 2 => rfl
noncomputable def callL (a b c : Int) : IE := .call "_law_line" [.index (.var "script") (.const (.int a)), .index (.var "script") (.const (.int b)), .index (.var "script") (.const (.int c)), .var "lay"]
noncomputable def seg2 : List IS := [.assign "lay" (.index (.glob "_law_layouts") (.bin .mod (.index (.var "script") (.const (.int 1))) (.const (.int 3)))),
  .assign "lines" (.list [callL 2 3 4, callL 5 6 7, callL 8 9 10, callL 11 12 13, callL 14 15 16, callL 17 18 19, callL 20 21 22]),
  .assign "deeds" (.list []),
  .assign "ops" (.list []),
  .assign "due" (.const (.str (PySem.Str.ofString ""))),
  .assign "at" (.const (.int 0))]
noncomputable def linesV (y : Fin 3) (cs : List Code) : List V := cs.map fun c => lineV (lineOf y c)
section
variable {n : Nat} {φ : Frm} {sc : List V} {s : Nat → Int} {cap : Int}
theorem seg2_ok (h : φ.lookup "script" = some (.val (.list sc) true)) (hr : φ.lookup "room" = some (.val (.int cap) true)) (hs : ∀ i : Nat, i < 24 → indexV (.list sc) (.int (i : Int)) = .ok (.int (s i))) :
    ∃ φ' y cs, cs.length = 7 ∧ blk (recN tbl consts (n + 50)) φ seg2 = .ok (.next, φ') ∧ φ'.lookup "script" = some (.val (.list sc) true) ∧ φ'.lookup "room" = some (.val (.int cap) true) ∧ φ'.lookup "lines" = some (.val (.list (linesV y cs)) true) ∧
      φ'.lookup "deeds" = some (.val (.list []) true) ∧ φ'.lookup "ops" = some (.val (.list []) true) ∧ φ'.lookup "due" = some (.val (.str (S "")) true) ∧ φ'.lookup "at" = some (.val (.int 0) true) := by
  obtain ⟨y, hy⟩ := fmod_fin (s 1) 3 (by decide)
  have hy : (s 1).fmod 3 = ((y.val : Nat) : Int) := hy
  obtain ⟨l0, l1, l2, _⟩ := lay_pl y
  have hl : ∀ a b c : Nat, ∃ cd : Code, (recN tbl consts (n + 47)).fn "_law_line" [(.int (s a), true), (.int (s b), true), (.int (s c), true), (.tuple [.str (layOf y).1, .str (layOf y).2.1, .str (layOf y).2.2], true)] = .ok (lineV (lineOf y cd), true) := fun a b c => line_ok (n := n + 27) l0 l1 l2
  have i1 : indexV (.list sc) (.int 1) = .ok (.int (s 1)) := hs 1 (by decide)
  have i2 : indexV (.list sc) (.int 2) = .ok (.int (s 2)) := hs 2 (by decide)
  have i3 : indexV (.list sc) (.int 3) = .ok (.int (s 3)) := hs 3 (by decide)
  have i4 : indexV (.list sc) (.int 4) = .ok (.int (s 4)) := hs 4 (by decide)
  have i5 : indexV (.list sc) (.int 5) = .ok (.int (s 5)) := hs 5 (by decide)
  have i6 : indexV (.list sc) (.int 6) = .ok (.int (s 6)) := hs 6 (by decide)
  have i7 : indexV (.list sc) (.int 7) = .ok (.int (s 7)) := hs 7 (by decide)
  have i8 : indexV (.list sc) (.int 8) = .ok (.int (s 8)) := hs 8 (by decide)
  have i9 : indexV (.list sc) (.int 9) = .ok (.int (s 9)) := hs 9 (by decide)
  have i10 : indexV (.list sc) (.int 10) = .ok (.int (s 10)) := hs 10 (by decide)
  have i11 : indexV (.list sc) (.int 11) = .ok (.int (s 11)) := hs 11 (by decide)
  have i12 : indexV (.list sc) (.int 12) = .ok (.int (s 12)) := hs 12 (by decide)
  have i13 : indexV (.list sc) (.int 13) = .ok (.int (s 13)) := hs 13 (by decide)
  have i14 : indexV (.list sc) (.int 14) = .ok (.int (s 14)) := hs 14 (by decide)
  have i15 : indexV (.list sc) (.int 15) = .ok (.int (s 15)) := hs 15 (by decide)
  have i16 : indexV (.list sc) (.int 16) = .ok (.int (s 16)) := hs 16 (by decide)
  have i17 : indexV (.list sc) (.int 17) = .ok (.int (s 17)) := hs 17 (by decide)
  have i18 : indexV (.list sc) (.int 18) = .ok (.int (s 18)) := hs 18 (by decide)
  have i19 : indexV (.list sc) (.int 19) = .ok (.int (s 19)) := hs 19 (by decide)
  have i20 : indexV (.list sc) (.int 20) = .ok (.int (s 20)) := hs 20 (by decide)
  have i21 : indexV (.list sc) (.int 21) = .ok (.int (s 21)) := hs 21 (by decide)
  have i22 : indexV (.list sc) (.int 22) = .ok (.int (s 22)) := hs 22 (by decide)
  obtain ⟨c1, q1⟩ := hl 2 3 4
  obtain ⟨c2, q2⟩ := hl 5 6 7
  obtain ⟨c3, q3⟩ := hl 8 9 10
  obtain ⟨c4, q4⟩ := hl 11 12 13
  obtain ⟨c5, q5⟩ := hl 14 15 16
  obtain ⟨c6, q6⟩ := hl 17 18 19
  obtain ⟨c7, q7⟩ := hl 20 21 22
  refine ⟨upd "at" (.val (.int 0) true) (upd "due" (.val (.str (S "")) true) (upd "ops" (.val (.list []) true) (upd "deeds" (.val (.list []) true) (upd "lines" (.val (.list (linesV y [c1, c2, c3, c4, c5, c6, c7])) true) (upd "lay" (.val (.tuple [.str (layOf y).1, .str (layOf y).2.1, .str (layOf y).2.2]) true) φ))))), y, [c1, c2, c3, c4, c5, c6, c7], rfl, ?_, by simp [upd_lookup, h], by simp [upd_lookup, hr], by simp [upd_lookup], by simp [upd_lookup], by simp [upd_lookup], by simp [upd_lookup], by simp [upd_lookup]⟩
  simp [seg2, callL, blk_nil, blk_cons, next_then, ex_succ, exI, ev_succ, evI, ok_bind, upd_lookup, fzV, evs, fzs, binV, h, i1, i2, i3, i4, i5, i6, i7, i8, i9, i10, i11, i12, i13, i14, i15, i16, i17, i18, i19, i20, i21, i22, hy, c_lays, lay_idx, has_succ, t_law_line, q1, q2, q3, q4, q5, q6, q7, lim, linesV, onInt_ok, onStr_ok, onList_ok, onTup_ok, onO_ok, onTab_ok, onAcc_ok, arg0_ok, arg1_ok, addV, ltV]
theorem eqV_str {a b : PySem.Str} : eqV (.str a) (.str b) = .ok (a == b) := rfl
noncomputable def dueS (cs : List Code) : PySem.Str := match firstBad cs 0 with
  | none => S ""
  | some (j, w) => lineTxt ((j : Int) + 1) w
theorem firstBad_shift : ∀ (cs : List Code) (k : Nat), firstBad cs k = (firstBad cs 0).map fun p => (p.1 + k, p.2) := by
  intro v0
  induction v0 with
  | nil => intro _; exact rfl
  | cons c cs ih =>
    intro k
    unfold firstBad
    by_cases h : whyOf c ≠ S ""
    · rw [if_pos h, if_pos h]; simp
    · rw [if_neg h, if_neg h, ih (k + 1), ih (0 + 1)]
      cases firstBad cs 0 with
      | none => rfl
      | some p => simp; omega
theorem firstBad_snoc (c : Code) : ∀ cs : List Code, firstBad (cs ++ [c]) 0 = match firstBad cs 0 with | some p => some p | none => if whyOf c ≠ S "" then some (cs.length, whyOf c) else none := by
  intro v0
  induction v0 with
  | nil => simp [firstBad]
  | cons d cs ih =>
    show firstBad (d :: (cs ++ [c])) 0 = _
    unfold firstBad
    by_cases h : whyOf d ≠ S ""
    · rw [if_pos h, if_pos h]
    · rw [if_neg h, if_neg h, firstBad_shift (cs ++ [c]) (0 + 1), ih, firstBad_shift cs (0 + 1)]
      cases firstBad cs 0 with
      | none =>
        by_cases q : whyOf c ≠ S ""
        · simp [q]
        · simp [q]
      | some p => simp
theorem lineTxt_ne (i : Int) (w : PySem.Str) : lineTxt i w ≠ S "" := by
  intro h
  have := congrArg PySem.Str.length h
  unfold lineTxt at this
  rw [len_app, len_app, len_app] at this
  have e : (PySem.Str.ofString "line ").length = 5 := rfl
  have e2 : (S "").length = 0 := rfl
  omega
theorem line1 (w : PySem.Str) : S "line 1: " ++ w = lineTxt 1 w := by
  unfold lineTxt
  have : S "line 1: " = PySem.Str.ofString "line " ++ PySem.Str.ofString (toString (1 : Int)) ++ PySem.Str.ofString ": " := by decide +kernel
  rw [this]
theorem gotV_good {c : Code} (h : whyOf c = S "") : gotV [c] = .tuple [.list ((deedOf c).toList.map deedV), .str (S "")] := by
  unfold gotV
  have : firstBad [c] 0 = none := if_neg fun z => z h
  rw [this]
  simp [deedsL]
theorem gotV_bad {c : Code} (h : whyOf c ≠ S "") : gotV [c] = .tuple [.none, .str (lineTxt 1 (whyOf c))] := by
  unfold gotV
  have : firstBad [c] 0 = some (0, whyOf c) := if_pos h
  rw [this]; rfl
theorem str_nice_app {a b : PySem.Str} (ha : PyData.strOk a = true) (hb : PyData.strOk b = true) : PyData.strOk (a ++ b) = true := by
  unfold PyData.strOk at *
  rw [← Array.all_toList] at *
  rw [app_list, List.all_append, ha, hb]; rfl
theorem lineTxt_nice {i : Nat} (h : i ≤ 10) {w : PySem.Str} (hw : PyData.strOk w = true) : PyData.strOk (lineTxt (i : Int) w) = true := by
  unfold lineTxt
  have : ∀ i : Fin 11, PyData.strOk (PySem.Str.ofString (toString ((i.val : Nat) : Int))) = true := by decide +kernel
  exact str_nice_app (str_nice_app (str_nice_app (by decide +kernel) (this ⟨i, by omega⟩)) (by decide +kernel)) hw
theorem num_len {i : Nat} (h : i ≤ 10) : (PySem.Str.ofString (toString (i : Int))).length ≤ 10 := by
  have : ∀ i : Fin 11, (PySem.Str.ofString (toString ((i.val : Nat) : Int))).length ≤ 10 := by decide +kernel
  exact this ⟨i, by omega⟩
theorem deed_none {c : Code} (h : whyOf c ≠ S "") : deedOf c = none := by
  cases c with
  | bad a => rfl
  | get a => exact absurd rfl h
  | put a b => exact absurd rfl h
  | noise a => exact absurd rfl h
theorem deedsL_snoc (cs : List Code) (c : Code) : deedsL (cs ++ [c]) = deedsL cs ++ (deedOf c).toList := by simp [deedsL]
noncomputable def lb : List IS := [.assign "at" (.bin .add (.var "at") (.const (.int 1))),
  .assign "got" (.call "_law_read" [.index (.var "line") (.const (.int 0))]),
  .ite (.cmp .eq (.index (.var "line") (.const (.int 2))) (.const (.str (PySem.Str.ofString "")))) [.ite (.cmp .ne (.var "got") (.tuple [.index (.var "line") (.const (.int 1)),
  .const (.str (PySem.Str.ofString ""))])) [.ret (.const (.bool false))] [],
  .assign "ops" (.bin .add (.var "ops") (.index (.var "got") (.const (.int 0)))),
  .assign "deeds" (.bin .add (.var "deeds") (.index (.var "line") (.const (.int 1))))] [.ite (.cmp .ne (.var "got") (.tuple [.const .none,
  .bin .add (.const (.str (PySem.Str.ofString "line 1: "))) (.index (.var "line") (.const (.int 2)))])) [.ret (.const (.bool false))] [],
  .ite (.cmp .eq (.var "due") (.const (.str (PySem.Str.ofString "")))) [.assign "due" (.bin .add (.bin .add (.bin .add (.const (.str (PySem.Str.ofString "line "))) (.strOf (.var "at"))) (.const (.str (PySem.Str.ofString ": ")))) (.index (.var "line") (.const (.int 2))))] []]]
/-- what the loop over the lines holds -/
structure LI (φ : Frm) (P : List Code) : Prop where
  deeds : φ.lookup "deeds" = some (.val (.list ((deedsL P).map deedV)) true)
  ops : φ.lookup "ops" = some (.val (.list ((deedsL P).map deedV)) true)
  due : φ.lookup "due" = some (.val (.str (dueS P)) true)
  «at» : φ.lookup "at" = some (.val (.int (P.length : Int)) true)
theorem lines_turn {y : Fin 3} {P : List Code} {c : Code} (hP : P.length < 10) (I : LI φ P) (hl : φ.lookup "line" = some (.val (lineV (lineOf y c)) true)) :
    ∃ φ', blk (recN tbl consts (n + 50)) φ lb = .ok (.next, φ') ∧ LI φ' (P ++ [c]) ∧ ∀ x, x ≠ "at" → x ≠ "got" → x ≠ "ops" → x ≠ "deeds" → x ≠ "due" → φ'.lookup x = φ.lookup x := by
  have q := law_read_one (n := n + 12) (y := y) (f := true) c
  have hdl : (deedsL P).length ≤ 1000 := by
    have : ∀ cs : List Code, (deedsL cs).length ≤ cs.length := by
      intro cs
      induction cs with
      | nil => simp [deedsL]
      | cons a cs ih =>
        have e : deedsL (a :: cs) = (deedOf a).toList ++ deedsL cs := rfl
        have : (deedOf a).toList.length ≤ 1 := by cases deedOf a <;> simp
        rw [e, List.length_append, List.length_cons]; omega
    have := this P; omega
  have hdl1 : (deedOf c).toList.length ≤ 1 := by cases deedOf c <;> simp
  have h2 : (deedsL P).length + (deedOf c).toList.length ≤ 1000000 := by omega
  by_cases hw : whyOf c = S ""
  · have hn : niceK 20 (.tuple [.list ((deedOf c).toList.map deedV), .str (S "")]) = true := by
      have h1 : ∀ d ∈ (deedsL [c]).map deedV, niceK 18 d = true := deedsL_nice [c] 16
      have e : deedsL [c] = (deedOf c).toList := by simp [deedsL]
      rw [e] at h1
      have h0 : PyData.strOk (S "") = true := by decide +kernel
      simp only [niceK, List.all_cons, List.all_nil, Bool.and_true, h0, List.all_eq_true]
      exact h1
    have q2 := eq_tuple hn
    rw [gotV_good hw] at q
    have hw' : (lineOf y c).why = PySem.Str.ofString "" := hw
    have hd' : (lineOf y c).deed = deedOf c := rfl
    have ee : (PySem.Str.ofString "" == PySem.Str.ofString "") = true := by decide
    refine ⟨upd "deeds" (.val (.list ((deedsL (P ++ [c])).map deedV)) true) (upd "ops" (.val (.list ((deedsL (P ++ [c])).map deedV)) true) (upd "got" (.val (.tuple [.list ((deedOf c).toList.map deedV), .str (S "")]) true) (upd "at" (.val (.int ((P.length : Int) + 1)) true) φ))), ?_, ⟨by simp [upd_lookup], by simp [upd_lookup], ?_, by simp [upd_lookup]⟩, fun x h1 h2 h3 h4 h5 => by simp [upd_lookup, h1, h2, h3, h4]⟩
    · simp [lb, blk_nil, blk_cons, next_then, ex_succ, exI, ts_succ, tsI, ev_succ, evI, ok_bind, upd_lookup, cmpV, fzV, evs, binV, I.at, I.ops, I.deeds, hl, lineV, idx30, idx31, idx32, idx20, has_succ, t_law_read, q, q2, hw', hd', ee, lim, atom_str, h2, deedsL_snoc, eqV_str, onInt_ok, onStr_ok, onList_ok, onTup_ok, onO_ok, onTab_ok, onAcc_ok, arg0_ok, arg1_ok, addV, ltV]
    · have : dueS (P ++ [c]) = dueS P := by
        unfold dueS
        rw [firstBad_snoc]
        cases firstBad P 0 with
        | none => simp [hw]
        | some p => rfl
      rw [this]; simp [upd_lookup, I.due]
  · obtain ⟨wn, wl⟩ := why_nice c
    have hi : PyData.strOk (lineTxt 1 (whyOf c)) = true := lineTxt_nice (i := 1) (by omega) wn
    have hn : niceK 20 (.tuple [.none, .str (lineTxt 1 (whyOf c))]) = true := by
      simp only [niceK, List.all_cons, List.all_nil, Bool.and_true, hi]
    have q2 := eq_tuple hn
    rw [gotV_bad hw] at q
    have hw' : (lineOf y c).why = whyOf c := rfl
    have hwb : (whyOf c == PySem.Str.ofString "") = false := beq_eq_false_iff_ne.mpr hw
    have hd' : (lineOf y c).deed = deedOf c := rfl
    have hd0 := deed_none hw
    have e8 : (PySem.Str.ofString "line 1: ").length = 8 := rfl
    have e5 : (PySem.Str.ofString "line ").length = 5 := rfl
    have e2 : (PySem.Str.ofString ": ").length = 2 := rfl
    have nl := num_len (i := P.length + 1) (by omega)
    have nl : (PySem.Str.ofString ((P.length : Int) + 1).repr).length ≤ 10 := nl
    have g0 : (PySem.Str.ofString "line 1: ").length + (whyOf c).length ≤ 1000000 := by omega
    have g1 : (PySem.Str.ofString "line ").length + (PySem.Str.ofString ((P.length : Int) + 1).repr).length ≤ 1000000 := by omega
    have g2 : (PySem.Str.ofString "line ").length + (PySem.Str.ofString ((P.length : Int) + 1).repr).length + (PySem.Str.ofString ": ").length ≤ 1000000 := by omega
    have g3 : (PySem.Str.ofString "line ").length + (PySem.Str.ofString ((P.length : Int) + 1).repr).length + (PySem.Str.ofString ": ").length + (whyOf c).length ≤ 1000000 := by omega
    have hna : ((P.length : Int) + 1).natAbs < 1267650600228229401496703205376 := by omega
    have hds : deedsL (P ++ [c]) = deedsL P := by rw [deedsL_snoc, hd0]; simp
    have hl1 := line1 (whyOf c)
    cases hb : firstBad P 0 with
    | none =>
      have hdue : dueS P = PySem.Str.ofString "" := by unfold dueS; rw [hb]
      have hdue' : dueS (P ++ [c]) = lineTxt ((P.length : Int) + 1) (whyOf c) := by unfold dueS; rw [firstBad_snoc, hb]; simp [hw]
      have I3 := I.due
      rw [hdue] at I3
      have ee : (PySem.Str.ofString "" == PySem.Str.ofString "") = true := by decide
      refine ⟨upd "due" (.val (.str (lineTxt ((P.length : Int) + 1) (whyOf c))) true) (upd "got" (.val (.tuple [.none, .str (lineTxt 1 (whyOf c))]) true) (upd "at" (.val (.int ((P.length : Int) + 1)) true) φ)), ?_, ⟨by rw [hds]; simp [upd_lookup, I.deeds], by rw [hds]; simp [upd_lookup, I.ops], by rw [hdue']; simp [upd_lookup], by simp [upd_lookup]⟩, fun x h1 h2 h3 h4 h5 => by simp [upd_lookup, h1, h2, h5]⟩
      simp [lb, blk_nil, blk_cons, next_then, ex_succ, exI, ts_succ, tsI, ev_succ, evI, ok_bind, upd_lookup, cmpV, fzV, evs, binV, I.at, I.ops, I.deeds, I3, hl, lineV, idx30, idx31, idx32, idx20, has_succ, t_law_read, q, q2, hw', hd', hwb, lim, atom_str, atom_none, eqV_str, g0, g1, g2, g3, hna, hl1, len_app, ee, onInt_ok, onStr_ok, onList_ok, onTup_ok, onO_ok, onTab_ok, onAcc_ok, arg0_ok, arg1_ok, addV, ltV]
      rfl
    | some p =>
      have hdue : dueS P = lineTxt ((p.1 : Int) + 1) p.2 := by unfold dueS; rw [hb]
      have hdue' : dueS (P ++ [c]) = dueS P := by unfold dueS; rw [firstBad_snoc, hb]
      have ee : (dueS P == PySem.Str.ofString "") = false := by rw [hdue]; exact beq_eq_false_iff_ne.mpr (lineTxt_ne _ _)
      refine ⟨upd "got" (.val (.tuple [.none, .str (lineTxt 1 (whyOf c))]) true) (upd "at" (.val (.int ((P.length : Int) + 1)) true) φ), ?_, ⟨by rw [hds]; simp [upd_lookup, I.deeds], by rw [hds]; simp [upd_lookup, I.ops], by rw [hdue']; simp [upd_lookup, I.due], by simp [upd_lookup]⟩, fun x h1 h2 h3 h4 h5 => by simp [upd_lookup, h1, h2]⟩
      simp [lb, blk_nil, blk_cons, next_then, ex_succ, exI, ts_succ, tsI, ev_succ, evI, ok_bind, upd_lookup, cmpV, fzV, evs, binV, I.at, I.ops, I.deeds, I.due, hl, lineV, idx30, idx31, idx32, idx20, has_succ, t_law_read, q, q2, hw', hd', hwb, lim, atom_str, atom_none, eqV_str, g0, hl1, ee, onInt_ok, onStr_ok, onList_ok, onTup_ok, onO_ok, onTab_ok, onAcc_ok, arg0_ok, arg1_ok, addV, ltV]
theorem loop_lines {y : Fin 3} : ∀ (cs P : List Code) (φ : Frm), P.length + cs.length ≤ 10 → LI φ P →
    ∃ φ', loopG (recN tbl consts (n + 50)) (bnd1 "line") lb φ ((linesV y cs).map fun d => (d, true)) = .ok (.next, φ') ∧ LI φ' (P ++ cs) ∧ ∀ x, x ≠ "at" → x ≠ "got" → x ≠ "ops" → x ≠ "deeds" → x ≠ "due" → x ≠ "line" → φ'.lookup x = φ.lookup x := by
  intro v0
  induction v0 with
  | nil => intro P φ _ I; exact ⟨φ, rfl, by rw [List.append_nil]; exact I, fun _ _ _ _ _ _ _ => rfl⟩
  | cons c cs ih =>
    intro P φ hl I
    simp only [List.length_cons] at hl
    obtain ⟨φ₁, a1, a2, a3⟩ := lines_turn (n := n) (y := y) (P := P) (c := c) (φ := upd "line" (.val (lineV (lineOf y c)) true) φ) (by omega) ⟨by simp [upd_lookup, I.deeds], by simp [upd_lookup, I.ops], by simp [upd_lookup, I.due], by simp [upd_lookup, I.at]⟩ (by simp [upd_lookup])
    obtain ⟨φ₂, b1, b2, b3⟩ := ih (P ++ [c]) φ₁ (by simp; omega) a2
    refine ⟨φ₂, ?_, by rw [List.append_assoc] at b2; exact b2, fun x h1 h2 h3 h4 h5 h6 => by rw [b3 x h1 h2 h3 h4 h5 h6, a3 x h1 h2 h3 h4 h5, upd_lookup, if_neg h6]⟩
    show loopG _ _ _ φ ((lineV (lineOf y c), true) :: (linesV y cs).map fun d => (d, true)) = _
    rw [loopG_cons]
    show Res.bind (Res.bind (fzV (lineV (lineOf y c), true)) _) _ = _
    rw [show fzV (lineV (lineOf y c), true) = .ok (lineV (lineOf y c)) from rfl, ok_bind, ok_bind, a1, ok_bind, next_after, b1]
end
end L5
end Mine
end

section
set_option Elab.async false
set_option linter.unusedSimpArgs false
set_option maxRecDepth 100000
namespace Mine
open PySem
namespace L5
open Mine
/-! ## the whole text, the ops -/
noncomputable def seg3 : List IS := [.for1 "line" (.plain (.var "lines")) lb,
  .assign "want" (.tuple [.var "deeds",
  .const (.str (PySem.Str.ofString ""))]),
  .ite (.cmp .ne (.var "due") (.const (.str (PySem.Str.ofString "")))) [.assign "want" (.tuple [.const .none,
  .var "due"])] [],
  .ite (.cmp .ne (.call "_law_read" [.meth .join (.const (.str (PySem.Str.ofString "\n"))) [.comp (.index (.var "x") (.const (.int 0))) "x" (.plain (.var "lines")) none]]) (.var "want")) [.ret (.const (.bool false))] []]
noncomputable def tyb : List IS := [.ite (.typeIs (.index (.var "op") (.const (.int 2))) "int" false) [.ret (.const (.bool false))] []]
theorem comp_texts {n : Nat} {ψ : Frm} {y : Fin 3} : ∀ cs : List Code, compI (recN tbl consts (n+6)) ψ (.index (.var "x") (.const (.int 0))) "x" none ((linesV y cs).map fun d => (d, true)) = .ok ((textsOf y cs).map V.str) := by
  intro v0
  induction v0 with
  | nil => exact rfl
  | cons c cs ih =>
    show compI _ _ _ _ _ ((lineV (lineOf y c), true) :: (linesV y cs).map fun d => (d, true)) = _
    rw [compI_yes (e := .str (lineOf y c).text) (by simp [has_succ, blk_nil, blk_cons, next_then, ex_succ, exI, ts_succ, tsI, ev_succ, evI, ok_bind, exc_bind, bad_bind, upd_lookup, cmpV, inV, eqV, eqD, fzV, evs, fzs, truthV, atom_none, atom_bool, atom_int, atom_str, atom_tuple, atom_list, lenV, indexV, allI, anyI, binV, appI, iterI, evIt, condI, bnd1, bndN, loopG_nil, loopG_cons, next_after, cont_after, onInt_ok, onStr_ok, onList_ok, onTup_ok, onO_ok, onTab_ok, onAcc_ok, arg0_ok, arg1_ok, addV, ltV, atV]) (by simp [ev_succ, evI, upd_lookup, ok_bind, lineV, idx30, fzV, atom_str, onInt_ok, onStr_ok, onList_ok, onTup_ok, onO_ok, onTab_ok, onAcc_ok, arg0_ok, arg1_ok, addV, ltV]), ih]; rfl
theorem firstBad_lt : ∀ (cs : List Code) (k : Nat) {p}, firstBad cs k = some p → p.1 < k + cs.length ∧ ∃ c, p.2 = whyOf c := by
  intro v0
  induction v0 with
  | nil => intro _ _ h; cases h
  | cons c cs ih =>
    intro k p h
    unfold firstBad at h
    by_cases q : whyOf c ≠ S ""
    · rw [if_pos q] at h; cases h
      exact ⟨by simp, c, rfl⟩
    · rw [if_neg q] at h
      obtain ⟨a, b⟩ := ih (k + 1) h
      exact ⟨by simp only [List.length_cons]; omega, b⟩
theorem gotV_nice (cs : List Code) (h : cs.length ≤ 9) : ∃ ds, gotV cs = .tuple ds ∧ niceK 20 (.tuple ds) = true := by
  unfold gotV
  cases hb : firstBad cs 0 with
  | none =>
    refine ⟨_, rfl, ?_⟩
    have h1 : ∀ d ∈ (deedsL cs).map deedV, niceK 18 d = true := deedsL_nice cs 16
    have h0 : PyData.strOk (S "") = true := by decide +kernel
    simp only [niceK, List.all_cons, List.all_nil, Bool.and_true, h0, List.all_eq_true]
    exact h1
  | some p =>
    obtain ⟨j, w⟩ := p
    obtain ⟨hj, c, hc⟩ := firstBad_lt cs 0 hb
    refine ⟨_, rfl, ?_⟩
    have hw : PyData.strOk w = true := by rw [show w = whyOf c from hc]; exact (why_nice c).1
    have := lineTxt_nice (i := j + 1) (by simp at hj; omega) hw
    have h2 : PyData.strOk (lineTxt ((j : Int) + 1) w) = true := this
    simp only [niceK, List.all_cons, List.all_nil, Bool.and_true, h2]
section
variable {n : Nat} {φ : Frm} {sc : List V} {cap : Int} {y : Fin 3} {cs : List Code}
theorem seg3_ok (hc : cs.length = 7) (hl : φ.lookup "lines" = some (.val (.list (linesV y cs)) true)) (h1 : φ.lookup "deeds" = some (.val (.list []) true)) (h2 : φ.lookup "ops" = some (.val (.list []) true)) (h3 : φ.lookup "due" = some (.val (.str (S "")) true)) (h4 : φ.lookup "at" = some (.val (.int 0) true)) :
    ∃ φ', blk (recN tbl consts (n + 51)) φ seg3 = .ok (.next, φ') ∧ φ'.lookup "deeds" = some (.val (.list ((deedsL cs).map deedV)) true) ∧ φ'.lookup "ops" = some (.val (.list ((deedsL cs).map deedV)) true) ∧ φ'.lookup "script" = φ.lookup "script" ∧ φ'.lookup "room" = φ.lookup "room" := by
  obtain ⟨φ₁, a1, a2, a3⟩ := loop_lines (n := n) (y := y) cs [] φ (by simp; omega) ⟨h1, h2, h3, h4⟩
  rw [List.nil_append] at a2
  have hl1 : φ₁.lookup "lines" = some (.val (.list (linesV y cs)) true) := by rw [a3 _ (by decide) (by decide) (by decide) (by decide) (by decide) (by decide)]; exact hl
  have q := law_read_ok (n := n + 12) (y := y) (f := true) cs (by intro z; rw [z] at hc; cases hc) (by omega)
  obtain ⟨gs, ge, gn⟩ := gotV_nice cs (by omega)
  have q2 := eq_tuple gn
  rw [← ge] at q2
  have hts : (textsOf y cs).length = 7 := (List.length_map _).trans hc
  have hsum := texts_sum y cs
  have e1 : (PySem.Str.ofString "\n").length = 1 := rfl
  have hlim : ((textsOf y cs).map (·.length)).sum + (textsOf y cs).length * (PySem.Str.ofString "\n").length ≤ 1000000 := by rw [hts, e1]; omega
  have hll : (linesV y cs).length ≤ 1000000 := by rw [show (linesV y cs).length = cs.length from List.length_map _]; omega
  have q3 := fun ψ => comp_texts (n := n + 40) (ψ := ψ) (y := y) cs
  have q4 := strsOf_map (textsOf y cs)
  cases hb : firstBad cs 0 with
  | none =>
    have hdue : dueS cs = PySem.Str.ofString "" := by unfold dueS; rw [hb]
    have hg : gotV cs = .tuple [.list ((deedsL cs).map deedV), .str (PySem.Str.ofString "")] := by unfold gotV; rw [hb]
    have I3 := a2.due
    rw [hdue] at I3
    have ee : (PySem.Str.ofString "" == PySem.Str.ofString "") = true := by decide
    rw [hg] at q q2
    refine ⟨upd "want" (.val (.tuple [.list ((deedsL cs).map deedV), .str (PySem.Str.ofString "")]) true) φ₁, ?_, by simp [upd_lookup, a2.deeds], by simp [upd_lookup, a2.ops], by rw [upd_lookup, if_neg (by decide)]; exact a3 _ (by decide) (by decide) (by decide) (by decide) (by decide) (by decide), by rw [upd_lookup, if_neg (by decide)]; exact a3 _ (by decide) (by decide) (by decide) (by decide) (by decide) (by decide)⟩
    simp [seg3, blk_nil, blk_cons, next_then, ex_succ, exI, ts_succ, tsI, ev_succ, evI, ok_bind, upd_lookup, cmpV, fzV, evs, iterI, evIt, hl, hl1, a1, a2.deeds, I3, eqV_str, ee, has_succ, t_law_read, It.simple, hll, lim, q3, methV, q4, hlim, q, q2, atom_str, onInt_ok, onStr_ok, onList_ok, onTup_ok, onO_ok, onTab_ok, onAcc_ok, arg0_ok, arg1_ok, addV, ltV]
  | some p =>
    obtain ⟨j, w⟩ := p
    have hdue : dueS cs = lineTxt ((j : Int) + 1) w := by unfold dueS; rw [hb]
    have hg : gotV cs = .tuple [.none, .str (lineTxt ((j : Int) + 1) w)] := by unfold gotV; rw [hb]
    have I3 := a2.due
    rw [hdue] at I3
    have ee : (lineTxt ((j : Int) + 1) w == PySem.Str.ofString "") = false := beq_eq_false_iff_ne.mpr (lineTxt_ne _ _)
    rw [hg] at q q2
    refine ⟨upd "want" (.val (.tuple [.none, .str (lineTxt ((j : Int) + 1) w)]) true) (upd "want" (.val (.tuple [.list ((deedsL cs).map deedV), .str (PySem.Str.ofString "")]) true) φ₁), ?_, by simp [upd_lookup, a2.deeds], by simp [upd_lookup, a2.ops], by rw [upd_lookup, if_neg (by decide), upd_lookup, if_neg (by decide)]; exact a3 _ (by decide) (by decide) (by decide) (by decide) (by decide) (by decide), by rw [upd_lookup, if_neg (by decide), upd_lookup, if_neg (by decide)]; exact a3 _ (by decide) (by decide) (by decide) (by decide) (by decide) (by decide)⟩
    simp [seg3, blk_nil, blk_cons, next_then, ex_succ, exI, ts_succ, tsI, ev_succ, evI, ok_bind, upd_lookup, cmpV, fzV, evs, iterI, evIt, hl, hl1, a1, a2.deeds, I3, eqV_str, ee, has_succ, t_law_read, It.simple, hll, lim, q3, methV, q4, hlim, q, q2, atom_str, atom_none, onInt_ok, onStr_ok, onList_ok, onTup_ok, onO_ok, onTab_ok, onAcc_ok, arg0_ok, arg1_ok, addV, ltV]
theorem loop_types : ∀ (ds : List Deed) (φ : Frm), ∃ φ', loopG (recN tbl consts (n + 50)) (bnd1 "op") tyb φ (ds.map fun d => (deedV d, true)) = .ok (.next, φ') ∧ ∀ x, x ≠ "op" → φ'.lookup x = φ.lookup x := by
  intro v0
  induction v0 with
  | nil => intro φ; exact ⟨φ, rfl, fun _ _ => rfl⟩
  | cons d ds ih =>
    intro φ
    obtain ⟨φ', q1, q2⟩ := ih (upd "op" (.val (deedV d) true) φ)
    refine ⟨φ', ?_, fun x hx => by rw [q2 x hx, upd_lookup, if_neg hx]⟩
    rw [List.map_cons, ← q1]
    have e2 : indexV (deedV d) (.int 2) = .ok (.int d.val) := rfl
    simp [tyb, blk_nil, blk_cons, next_then, ex_succ, exI, ts_succ, tsI, ev_succ, evI, ok_bind, upd_lookup, fzV, bnd1, loopG_cons, next_after, e2, typeV, onInt_ok, onStr_ok, onList_ok, onTup_ok, onO_ok, onTab_ok, onAcc_ok, arg0_ok, arg1_ok, addV, ltV]
end
end L5
end Mine
end

section
set_option Elab.async false
set_option linter.unusedSimpArgs false
set_option maxRecDepth 100000
namespace Mine
open PySem
theorem off_keys {k x : PySem.Str} {c : Cch} (h : x ∈ keys (off k c)) : x ∈ keys c := (mem_off.mp h).1
noncomputable def okC (c : Cch) : Prop := ∀ k ∈ keys c, PyData.strOk k = true
noncomputable def okA (a : V) : Prop := a = .none ∨ (∃ i, a = .int i) ∨ ∃ x, a = .str x ∧ PyData.strOk x = true
theorem okC_snoc {c : Cch} {k : PySem.Str} {v : Int} (h : okC c) (hk : PyData.strOk k = true) : okC (c ++ [(k, v)]) := by
  intro x hx
  rw [keys_app, List.mem_append] at hx
  rcases hx with hx | hx
  · exact h x hx
  · simp only [keys, List.map_cons, List.map_nil, List.mem_singleton] at hx
    rw [hx]; exact hk
theorem empty_ok : PyData.strOk (PySem.Str.ofString "") = true := by decide +kernel
theorem laid_okC {cap : Int} {c : Cch} {k : PySem.Str} {v : Int} (h : okC c) (hk : PyData.strOk k = true) : okC (laid cap c k v).2 ∧ okA (laid cap c k v).1 := by
  obtain ⟨x, e, hx⟩ := laid_ans (cap := cap) (c := c) (k := k) (v := v)
  refine ⟨?_, .inr (.inr ⟨x, e, ?_⟩)⟩
  · unfold laid
    split
    · exact okC_snoc (fun x hx => h x (off_keys hx)) hk
    · split
      · cases c with
        | nil => exact okC_snoc (c := []) (fun x hx => by simp [keys] at hx) hk
        | cons p c => exact okC_snoc (fun x hx => h x (List.mem_cons_of_mem _ hx)) hk
      · exact okC_snoc h hk
  · rcases hx with hx | hx
    · rw [hx]; exact empty_ok
    · exact h x hx
theorem stp_okC {cap : Int} {c : Cch} {d : Deed} (h : okC c) (hk : PyData.strOk d.key = true) : okC (stp cap c d).2 ∧ okA (stp cap c d).1 := by
  unfold stp
  split
  · split
    · exact ⟨okC_snoc (fun x hx => h x (off_keys hx)) hk, .inr (.inl ⟨_, rfl⟩)⟩
    · exact ⟨h, .inl rfl⟩
  · exact laid_okC h hk
theorem run_okC {cap : Int} : ∀ {ds : List Deed} {c : Cch}, okC c → (∀ d ∈ ds, PyData.strOk d.key = true) → okC (run cap c ds).2 ∧ ∀ a ∈ (run cap c ds).1, okA a := by
  intro v0
  induction v0 with
  | nil => intro c h _; exact ⟨h, fun _ h => nomatch h⟩
  | cons d ds ih =>
    intro c h hd
    obtain ⟨h1, h2⟩ := stp_okC (cap := cap) h (hd d (.head _))
    obtain ⟨h3, h4⟩ := ih h1 fun x hx => hd x (.tail _ hx)
    rw [run_cons]
    refine ⟨h3, fun a ha => ?_⟩
    rcases List.mem_cons.mp ha with rfl | ha
    · exact h2
    · exact h4 a ha
theorem okA_nice {a : V} (h : okA a) (k : Nat) : niceK k a = true := by
  rcases h with rfl | ⟨i, rfl⟩ | ⟨x, rfl, hx⟩
  · cases k <;> rfl
  · cases k <;> rfl
  · cases k <;> simpa [niceK] using hx
namespace L5
open Mine
theorem outV_nice {cap : Int} {ds : List Deed} (hd : ∀ d ∈ ds, PyData.strOk d.key = true) : niceK 20 (outV cap ds) = true := by
  obtain ⟨h1, h2⟩ := run_okC (cap := cap) (c := []) (ds := ds) (fun x hx => by simp [keys] at hx) hd
  have e1 : ∀ v ∈ (run cap [] ds).1, niceK 18 v = true := fun v hv => okA_nice (h2 v hv) 18
  have e2 : ∀ v ∈ (run cap [] ds).2.map pairV, niceK 18 v = true := by
    intro v hv
    obtain ⟨p, hp, rfl⟩ := List.mem_map.mp hv
    have := h1 p.1 (List.mem_map.mpr ⟨p, hp, rfl⟩)
    simp [niceK, pairV, this]
  simp only [outV, niceK, List.all_cons, List.all_nil, Bool.and_true, Bool.and_eq_true, List.all_eq_true]
  exact ⟨e1, e2⟩
noncomputable def seg4 : List IS := [.for1 "op" (.plain (.var "ops")) tyb,
  .assign "kept" (.listOf (.var "deeds")),
  .assign "fast" (.call "play_cache_fast" [.var "ops",
  .var "room"]),
  .assign "plain" (.call "play_cache" [.var "deeds",
  .var "room"]),
  .assign "model" (.call "play_model" [.var "deeds",
  .var "room"]),
  .ite (.cmp .ne (.var "ops") (.var "kept")) [.ret (.const (.bool false))] [],
  .ite (.cmp .ne (.var "deeds") (.var "kept")) [.ret (.const (.bool false))] [],
  .assign "ends" (.call "_law_replay" [.var "kept",
  .var "room"])]
theorem deeds_len (cs : List Code) : (deedsL cs).length ≤ cs.length := by
  induction cs with
  | nil => simp [deedsL]
  | cons a cs ih =>
    have e : deedsL (a :: cs) = (deedOf a).toList ++ deedsL cs := rfl
    have : (deedOf a).toList.length ≤ 1 := by cases deedOf a <;> simp
    rw [e, List.length_append, List.length_cons]; omega
section
variable {n : Nat} {φ : Frm} {sc : List V} {cap : Int} {y : Fin 3} {cs : List Code}
theorem deeds_flag (ds : List Deed) : ds.map ((fun d => (d, true)) ∘ deedV) = ds.map fun d => (deedV d, true) := rfl
theorem seg4_ok (hcap : 1 ≤ cap) (hc : cs.length = 7) (h1 : φ.lookup "deeds" = some (.val (.list ((deedsL cs).map deedV)) true)) (h2 : φ.lookup "ops" = some (.val (.list ((deedsL cs).map deedV)) true)) (h3 : φ.lookup "room" = some (.val (.int cap) true)) :
    ∃ φ', blk (recN tbl consts (n + 51)) φ seg4 = .ok (.next, φ') ∧ φ'.lookup "fast" = some (.val (outV cap (deedsL cs)) true) ∧ φ'.lookup "plain" = some (.val (outV cap (deedsL cs)) true) ∧ φ'.lookup "model" = some (.val (outV cap (deedsL cs)) true) ∧ φ'.lookup "ends" = some (.val (outV cap (deedsL cs)) true) ∧ φ'.lookup "script" = φ.lookup "script" := by
  have hlen := deeds_len cs
  obtain ⟨φ₁, a1, a2⟩ := loop_types (n := n) (deedsL cs) φ
  have b1 : φ₁.lookup "deeds" = some (.val (.list ((deedsL cs).map deedV)) true) := by rw [a2 _ (by decide)]; exact h1
  have b2 : φ₁.lookup "ops" = some (.val (.list ((deedsL cs).map deedV)) true) := by rw [a2 _ (by decide)]; exact h2
  have b3 : φ₁.lookup "room" = some (.val (.int cap) true) := by rw [a2 _ (by decide)]; exact h3
  have q1 := play_cache_fast_ok (n := n + 27) (f := true) hcap (deedsL cs) (by omega)
  have q2 := play_cache_ok (n := n + 27) (f := true) hcap (deedsL cs) (by omega)
  have q3 := play_model_ok (n := n + 27) (f := true) hcap (deedsL cs) (deeds_nice cs) (by omega)
  have q4 := replay_ok (n := n + 17) (f := true) hcap (deedsL cs) (by omega)
  have q5 : eqV (.list ((deedsL cs).map deedV)) (.list ((deedsL cs).map deedV)) = .ok true := eq_list (by
    simp only [niceK, List.all_eq_true]; exact deedsL_nice cs 17)
  have hl : (deedsL cs).length ≤ 1000000 := by omega
  refine ⟨upd "ends" (.val (outV cap (deedsL cs)) true) (upd "model" (.val (outV cap (deedsL cs)) true) (upd "plain" (.val (outV cap (deedsL cs)) true) (upd "fast" (.val (outV cap (deedsL cs)) true) (upd "kept" (.val (.list ((deedsL cs).map deedV)) true) φ₁)))), ?_, by simp [upd_lookup], by simp [upd_lookup], by simp [upd_lookup], by simp [upd_lookup], by simp [upd_lookup]; exact a2 _ (by decide)⟩
  simp [seg4, blk_nil, blk_cons, next_then, ex_succ, exI, ts_succ, tsI, ev_succ, evI, ok_bind, upd_lookup, cmpV, fzV, evs, iterI, evIt, h1, h2, h3, b1, b2, b3, deeds_flag, a1, has_succ, t_play_cache, t_play_cache_fast, t_play_model, t_law_replay, q1, q2, q3, q4, q5, hl, lim, onInt_ok, onStr_ok, onList_ok, onTup_ok, onO_ok, onTab_ok, onAcc_ok, arg0_ok, arg1_ok, addV, ltV]
end
end L5
end Mine
end

section
set_option Elab.async false
set_option linter.unusedSimpArgs false
set_option maxRecDepth 100000
namespace Mine
open PySem
namespace L5
open Mine
noncomputable def pb : List IS := [.ite (.typeIs (.index (.var "pair") (.const (.int 1))) "int" false) [.ret (.const (.bool false))] []]
noncomputable def ansb : List IS := [.ite (.and [.isNone (.var "answer") false,
  .typeIs (.var "answer") "int" false,
  .typeIs (.var "answer") "str" false]) [.ret (.const (.bool false))] []]
noncomputable def eb : List IS := [.ite (.cmp .ne (.var "end") (.var "ends")) [.ret (.const (.bool false))] [],
  .for1 "pair" (.plain (.index (.var "end") (.const (.int 1)))) pb,
  .for1 "answer" (.plain (.index (.var "end") (.const (.int 0)))) ansb]
noncomputable def seg5 : List IS := [.for1 "end" (.plain (.tuple [.var "fast",
  .var "plain",
  .var "model"])) eb]
section
variable {n : Nat} {φ : Frm} {sc : List V} {cap : Int} {ds : List Deed}
theorem loop_pairs : ∀ (l : Cch) (φ : Frm), ∃ φ', loopG (recN tbl consts (n + 49)) (bnd1 "pair") pb φ (l.map fun d => (pairV d, true)) = .ok (.next, φ') ∧ ∀ x, x ≠ "pair" → φ'.lookup x = φ.lookup x := by
  intro v0
  induction v0 with
  | nil => intro φ; exact ⟨φ, rfl, fun _ _ => rfl⟩
  | cons p l ih =>
    intro φ
    obtain ⟨φ', q1, q2⟩ := ih (upd "pair" (.val (pairV p) true) φ)
    refine ⟨φ', ?_, fun x hx => by rw [q2 x hx, upd_lookup, if_neg hx]⟩
    rw [List.map_cons, ← q1]
    have e2 : indexV (pairV p) (.int 1) = .ok (.int p.2) := rfl
    simp [pb, blk_nil, blk_cons, next_then, ex_succ, exI, ts_succ, tsI, ev_succ, evI, ok_bind, upd_lookup, fzV, bnd1, loopG_cons, next_after, e2, typeV, onInt_ok, onStr_ok, onList_ok, onTup_ok, onO_ok, onTab_ok, onAcc_ok, arg0_ok, arg1_ok, addV, ltV]
theorem loop_answers : ∀ (as : List V) (φ : Frm), (∀ a ∈ as, okA a) → ∃ φ', loopG (recN tbl consts (n + 49)) (bnd1 "answer") ansb φ (as.map fun d => (d, true)) = .ok (.next, φ') ∧ ∀ x, x ≠ "answer" → φ'.lookup x = φ.lookup x := by
  intro v0
  induction v0 with
  | nil => intro φ _; exact ⟨φ, rfl, fun _ _ => rfl⟩
  | cons a as ih =>
    intro φ h
    obtain ⟨φ', q1, q2⟩ := ih (upd "answer" (.val a true) φ) fun x hx => h x (.tail _ hx)
    refine ⟨φ', ?_, fun x hx => by rw [q2 x hx, upd_lookup, if_neg hx]⟩
    rw [List.map_cons, ← q1]
    rcases h a (.head _) with rfl | ⟨i, rfl⟩ | ⟨x, rfl, _⟩
    · simp [ansb, blk_nil, blk_cons, next_then, ex_succ, exI, ts_succ, tsI, ev_succ, evI, ok_bind, upd_lookup, fzV, bnd1, loopG_cons, next_after, typeV, allI, onInt_ok, onStr_ok, onList_ok, onTup_ok, onO_ok, onTab_ok, onAcc_ok, arg0_ok, arg1_ok, addV, ltV]
    · simp [ansb, blk_nil, blk_cons, next_then, ex_succ, exI, ts_succ, tsI, ev_succ, evI, ok_bind, upd_lookup, fzV, bnd1, loopG_cons, next_after, typeV, allI, onInt_ok, onStr_ok, onList_ok, onTup_ok, onO_ok, onTab_ok, onAcc_ok, arg0_ok, arg1_ok, addV, ltV]
    · simp [ansb, blk_nil, blk_cons, next_then, ex_succ, exI, ts_succ, tsI, ev_succ, evI, ok_bind, upd_lookup, fzV, bnd1, loopG_cons, next_after, typeV, allI, onInt_ok, onStr_ok, onList_ok, onTup_ok, onO_ok, onTab_ok, onAcc_ok, arg0_ok, arg1_ok, addV, ltV]
theorem end_turn (hd : ∀ d ∈ ds, PyData.strOk d.key = true) (h1 : φ.lookup "end" = some (.val (outV cap ds) true)) (h2 : φ.lookup "ends" = some (.val (outV cap ds) true)) :
    ∃ φ', blk (recN tbl consts (n + 50)) φ eb = .ok (.next, φ') ∧ φ'.lookup "ends" = φ.lookup "ends" ∧ φ'.lookup "script" = φ.lookup "script" := by
  obtain ⟨k1, k2⟩ := run_okC (cap := cap) (c := []) (ds := ds) (fun x hx => by simp [keys] at hx) hd
  obtain ⟨φ₁, a1, a2⟩ := loop_pairs (n := n) (run cap [] ds).2 φ
  obtain ⟨φ₂, b1, b2⟩ := loop_answers (n := n) (run cap [] ds).1 φ₁ k2
  have q : eqV (outV cap ds) (outV cap ds) = .ok true := eq_tuple (outV_nice hd)
  have h3 : φ₁.lookup "end" = some (.val (outV cap ds) true) := by rw [a2 _ (by decide)]; exact h1
  have e0 : indexV (outV cap ds) (.int 0) = .ok (.list (run cap [] ds).1) := rfl
  have e1 : indexV (outV cap ds) (.int 1) = .ok (.list ((run cap [] ds).2.map pairV)) := rfl
  refine ⟨φ₂, ?_, by rw [b2 _ (by decide), a2 _ (by decide)], by rw [b2 _ (by decide), a2 _ (by decide)]⟩
  simp [eb, blk_nil, blk_cons, next_then, ex_succ, exI, ts_succ, tsI, ev_succ, evI, ok_bind, cmpV, iterI, evIt, h1, h2, h3, q, e0, e1, pairs_flag, a1, b1, onInt_ok, onStr_ok, onList_ok, onTup_ok, onO_ok, onTab_ok, onAcc_ok, arg0_ok, arg1_ok, addV, ltV]
theorem seg5_ok (hd : ∀ d ∈ ds, PyData.strOk d.key = true) (h1 : φ.lookup "fast" = some (.val (outV cap ds) true)) (h2 : φ.lookup "plain" = some (.val (outV cap ds) true)) (h3 : φ.lookup "model" = some (.val (outV cap ds) true)) (h4 : φ.lookup "ends" = some (.val (outV cap ds) true)) :
    ∃ φ', blk (recN tbl consts (n + 51)) φ seg5 = .ok (.next, φ') ∧ φ'.lookup "script" = φ.lookup "script" := by
  obtain ⟨φ₁, a1, a2, a3⟩ := end_turn (n := n) (cap := cap) (ds := ds) (φ := upd "end" (.val (outV cap ds) true) φ) hd (by simp [upd_lookup]) (by simp [upd_lookup, h4])
  obtain ⟨φ₂, b1, b2, b3⟩ := end_turn (n := n) (cap := cap) (ds := ds) (φ := upd "end" (.val (outV cap ds) true) φ₁) hd (by simp [upd_lookup]) (by rw [upd_lookup, if_neg (by decide), a2]; simp [upd_lookup, h4])
  obtain ⟨φ₃, c1, c2, c3⟩ := end_turn (n := n) (cap := cap) (ds := ds) (φ := upd "end" (.val (outV cap ds) true) φ₂) hd (by simp [upd_lookup]) (by rw [upd_lookup, if_neg (by decide), b2, upd_lookup, if_neg (by decide), a2]; simp [upd_lookup, h4])
  refine ⟨φ₃, ?_, by rw [c3, upd_lookup, if_neg (by decide), b3, upd_lookup, if_neg (by decide), a3, upd_lookup, if_neg (by decide)]⟩
  simp [seg5, blk_nil, blk_cons, next_then, ex_succ, exI, ev_succ, evI, ok_bind, evs, iterI, evIt, h1, h2, h3, bnd1, fzV, loopG_cons, loopG_nil, next_after, a1, b1, c1, lim, onInt_ok, onStr_ok, onList_ok, onTup_ok, onO_ok, onTab_ok, onAcc_ok, arg0_ok, arg1_ok, addV, ltV]
end
/-! ## the word, the number -/
noncomputable def wa : Fin 5 → V
  | 0 => .str (S "a") | 1 => .str (S "") | 2 => .str (S " a") | 3 => .str (S "a ") | 4 => .int 7
noncomputable def wv : Fin 5 → V
  | 0 => .str (S "a") | _ => .none
noncomputable def ww : Fin 5 → PySem.Str
  | 0 => S "" | 1 => S "a name may not be empty, nor begin or end with a space: ''" | 2 => S "a name may not be empty, nor begin or end with a space: ' a'" | 3 => S "a name may not be empty, nor begin or end with a space: 'a '" | 4 => S "a name must be text"
noncomputable def wordsT : List V := [0, 1, 2, 3, 4].map fun i : Fin 5 => .tuple [wa i, wv i, .str (ww i)]
theorem c_words : consts "_law_words" = some (.tuple wordsT) := by kernel_rfl
theorem word_idx (i : Fin 5) : indexV (.tuple wordsT) (.int ((i.val : Nat) : Int)) = .ok (.tuple [wa i, wv i, .str (ww i)]) := by
  match i with
  | 0 => rfl
  | 1 => rfl
  | 2 => rfl
  | 3 => rfl
  | 4 => rfl
theorem word_ok (n : Nat) (i : Fin 5) : (recN tbl consts (n + 40)).fn "_law_word" [(wa i, true)] = .ok (.tuple [wv i, .str (ww i)], true) := by
  match i with
  | 0 => kernel_rfl
  | 1 => kernel_rfl
  | 2 => kernel_rfl
  | 3 => kernel_rfl
  | 4 => kernel_rfl
theorem word_nice : ∀ i : Fin 5, niceK 20 (.tuple [wv i, .str (ww i)]) = true := by decide +kernel
theorem word_atom : ∀ i : Fin 5, (wv i).atom = true := by decide
noncomputable def na : Fin 4 → V
  | 0 => .int 1 | 1 => .bool true | 2 => .str (S "1") | 3 => .int 0
noncomputable def nv : Fin 4 → V
  | 0 => .int 1 | _ => .none
noncomputable def nw : Fin 4 → PySem.Str
  | 0 => S "" | 1 => S "a number must be whole" | 2 => S "a number must be whole" | 3 => S "a number must lie between 1 and 1000000000000000000"
noncomputable def numsT : List V := [0, 1, 2, 3].map fun i : Fin 4 => .tuple [na i, nv i, .str (nw i)]
theorem c_nums : consts "_law_numbers" = some (.tuple numsT) := by kernel_rfl
theorem num_idx (i : Fin 4) : indexV (.tuple numsT) (.int ((i.val : Nat) : Int)) = .ok (.tuple [na i, nv i, .str (nw i)]) := by
  match i with
  | 0 => rfl
  | 1 => rfl
  | 2 => rfl
  | 3 => rfl
theorem num_ok (n : Nat) (i : Fin 4) : (recN tbl consts (n + 40)).fn "_law_number" [(na i, true)] = .ok (.tuple [nv i, .str (nw i)], true) := by
  match i with
  | 0 => kernel_rfl
  | 1 => kernel_rfl
  | 2 => kernel_rfl
  | 3 => kernel_rfl
theorem num_nice : ∀ i : Fin 4, niceK 20 (.tuple [nv i, .str (nw i)]) = true := by decide +kernel
theorem num_end : ∀ i : Fin 4, (nw i == PySem.Str.ofString "") = false ∨ ((nw i == PySem.Str.ofString "") = true ∧ nv i = .int 1) := by
  intro i
  match i with
  | 0 => exact .inr ⟨by decide, rfl⟩
  | 1 => exact .inl (by decide)
  | 2 => exact .inl (by decide)
  | 3 => exact .inl (by decide)
noncomputable def seg6 : List IS := [.assign "word" (.index (.glob "_law_words") (.bin .mod (.index (.var "script") (.const (.int 23))) (.const (.int 5)))),
  .ite (.cmp .ne (.call "_law_word" [.index (.var "word") (.const (.int 0))]) (.tuple [.index (.var "word") (.const (.int 1)),
  .index (.var "word") (.const (.int 2))])) [.ret (.const (.bool false))] [],
  .assign "number" (.index (.glob "_law_numbers") (.bin .mod (.index (.var "script") (.const (.int 23))) (.const (.int 4)))),
  .assign "got" (.call "_law_number" [.index (.var "number") (.const (.int 0))]),
  .ite (.cmp .ne (.var "got") (.tuple [.index (.var "number") (.const (.int 1)),
  .index (.var "number") (.const (.int 2))])) [.ret (.const (.bool false))] [],
  .ite (.and [.cmp .eq (.index (.var "number") (.const (.int 2))) (.const (.str (PySem.Str.ofString ""))),
  .typeIs (.index (.var "got") (.const (.int 0))) "int" false]) [.ret (.const (.bool false))] [],
  .ret (.const (.bool true))]
theorem t_law_word : tbl "_law_word" = some (["text"], b_law_word) := rfl
theorem t_law_number : tbl "_law_number" = some (["value"], b_law_number) := rfl
theorem t_law : tbl "law" = some (["script"], b_law) := rfl
theorem b_law_eq : b_law = .ite (.cmp .lt (.len (.var "script")) (.const (.int 24))) [.ret (.const (.bool true))] [] :: (seg1 ++ (seg2 ++ (seg3 ++ (seg4 ++ (seg5 ++ seg6))))) := rfl
section
variable {n : Nat} {φ : Frm} {sc : List V} {s : Int}
theorem seg6_ok (h : φ.lookup "script" = some (.val (.list sc) true)) (hs : indexV (.list sc) (.int 23) = .ok (.int s)) : ∃ φ', blk (recN tbl consts (n + 51)) φ seg6 = .ok (.ret (.bool true) true, φ') := by
  obtain ⟨i, hi⟩ := fmod_fin s 5 (by decide)
  have hi : s.fmod 5 = ((i.val : Nat) : Int) := hi
  obtain ⟨j, hj⟩ := fmod_fin s 4 (by decide)
  have hj : s.fmod 4 = ((j.val : Nat) : Int) := hj
  have q1 := word_ok (n + 8) i
  have q2 := eq_tuple (word_nice i)
  have q3 := num_ok (n + 9) j
  have q4 := eq_tuple (num_nice j)
  refine ⟨upd "got" (.val (.tuple [nv j, .str (nw j)]) true) (upd "number" (.val (.tuple [na j, nv j, .str (nw j)]) true) (upd "word" (.val (.tuple [wa i, wv i, .str (ww i)]) true) φ)), ?_⟩
  rcases num_end j with e | ⟨e, e2⟩
  · simp [seg6, blk_nil, blk_cons, next_then, ret_then, ex_succ, exI, ts_succ, tsI, ev_succ, evI, ok_bind, upd_lookup, cmpV, fzV, evs, binV, h, hs, hi, hj, c_words, c_nums, word_idx, num_idx, idx30, idx31, idx32, idx20, has_succ, t_law_word, t_law_number, q1, q2, q3, q4, lim, atom_str, allI, eqV_str, e, onInt_ok, onStr_ok, onList_ok, onTup_ok, onO_ok, onTab_ok, onAcc_ok, arg0_ok, arg1_ok, addV, ltV]
  · rw [e2] at q3 q4 ⊢
    simp [seg6, blk_nil, blk_cons, next_then, ret_then, ex_succ, exI, ts_succ, tsI, ev_succ, evI, ok_bind, upd_lookup, cmpV, fzV, evs, binV, h, hs, hi, hj, c_words, c_nums, word_idx, num_idx, idx30, idx31, idx32, idx20, has_succ, t_law_word, t_law_number, q1, q2, q3, q4, lim, atom_str, allI, eqV_str, e, e2, typeV, onInt_ok, onStr_ok, onList_ok, onTup_ok, onO_ok, onTab_ok, onAcc_ok, arg0_ok, arg1_ok, addV, ltV]
/-- the law answers True, whatever the script -/
theorem law_true (zs : List Int) : (recN tbl consts (n + 52)).fn "law" [(.list (zs.map V.int), true)] = .ok (.bool true, true) := by
  rw [show n + 52 = (n + 51) + 1 from rfl, fn_succ]
  unfold fnI
  rw [t_law]
  dsimp only
  rw [if_pos (show (["script"] : List String).length = [(V.list (zs.map V.int), true)].length from rfl), b_law_eq]
  show Res.bind (blk _ [("script", .val (.list (zs.map V.int)) true)] _) _ = _
  have hsc : ([("script", .val (.list (zs.map V.int)) true)] : Frm).lookup "script" = some (.val (.list (zs.map V.int)) true) := rfl
  generalize ([("script", .val (.list (zs.map V.int)) true)] : Frm) = φ at hsc
  rw [blk_cons]
  by_cases hl : zs.length < 24
  · have hl' : (zs.length : Int) < 24 := by omega
    have e : (recN tbl consts (n + 51)).ex φ (.ite (.cmp .lt (.len (.var "script")) (.const (.int 24))) [.ret (.const (.bool true))] []) = .ok (.ret (.bool true) true, φ) := by
      simp [ex_succ, exI, ts_succ, tsI, ev_succ, evI, ok_bind, hsc, lenV, cmpV, hl', blk_cons, blk_nil, ret_then, onInt_ok, onStr_ok, onList_ok, onTup_ok, onO_ok, onTab_ok, onAcc_ok, arg0_ok, arg1_ok, addV, ltV]
    rw [e, ok_bind, ret_then]; rfl
  · have hl' : ¬ (zs.length : Int) < 24 := by omega
    have e : (recN tbl consts (n + 51)).ex φ (.ite (.cmp .lt (.len (.var "script")) (.const (.int 24))) [.ret (.const (.bool true))] []) = .ok (.next, φ) := by
      simp [ex_succ, exI, ts_succ, tsI, ev_succ, evI, ok_bind, hsc, lenV, cmpV, hl', blk_cons, blk_nil, ret_then, onInt_ok, onStr_ok, onList_ok, onTup_ok, onO_ok, onTab_ok, onAcc_ok, arg0_ok, arg1_ok, addV, ltV]
    have hs : ∀ i : Nat, i < 24 → indexV (.list (zs.map V.int)) (.int (i : Int)) = .ok (.int (zs.getD i 0)) := by
      intro i hi
      have : zs[i]? = some (zs.getD i 0) := by
        rw [List.getD_eq_getElem?_getD]
        rw [List.getElem?_eq_getElem (by omega)]; rfl
      show (if 0 ≤ (i : Int) then onO (zs.map V.int)[(i : Int).toNat]? .ok else .bad) = _
      rw [if_pos (by omega), Int.toNat_natCast, List.getElem?_map, this]
      rfl
    rw [e, ok_bind, next_then, blk_app]
    obtain ⟨φ₁, cap, hcap, a1, a2, a3⟩ := seg1_ok (n := n + 1) hsc (hs 0 (by decide))
    rw [a1, ok_bind, next_then, blk_app]
    obtain ⟨φ₂, y, cs, hc, b1, b2, b3, b4, b5, b6, b7, b8⟩ := seg2_ok (n := n + 1) (s := fun i => zs.getD i 0) a2 a3 hs
    rw [b1, ok_bind, next_then, blk_app]
    obtain ⟨φ₃, c1, c2, c3, c4, c5⟩ := seg3_ok (n := n) hc b4 b5 b6 b7 b8
    rw [c1, ok_bind, next_then, blk_app]
    obtain ⟨φ₄, d1, d2, d3, d4, d5, d6⟩ := seg4_ok (n := n) hcap hc c2 c3 (by rw [c5]; exact b3)
    rw [d1, ok_bind, next_then, blk_app]
    obtain ⟨φ₅, e1, e2⟩ := seg5_ok (n := n) (deeds_nice cs) d2 d3 d4 d5
    rw [e1, ok_bind, next_then]
    obtain ⟨φ₆, f1⟩ := seg6_ok (n := n) (φ := φ₅) (by rw [e2, d6, c4]; exact b2) (hs 23 (by decide))
    rw [f1]; rfl
end
end L5
end Mine
end

section
set_option Elab.async false
set_option maxRecDepth 100000
namespace Mine
open PySem PySem.W PySem.Calls PyProof.Rows
theorem ints_RA {P : Program × World} {ok : Addr → Prop} {h : Heap} {vs : List Value} {zs : List Int} (x : IntsAre vs zs) : RA P ok h vs (zs.map V.int) := by
  induction x with
  | nil => exact .nil
  | cons n t _ ih => exact .cons (.int n t) ih
/-- a name space for the call from without -/
noncomputable def env0 : Env := envOf (nm "") { kind := .function, names := [], isGenerator := false, isCoroutine := false } 0 0 .none
noncomputable def cx0 : Cx := ⟨env0, callerA, []⟩
theorem cx0_ok {n : Nat} (h : n ≤ 600) : cx0.Ok n := by
  refine ⟨rfl, rfl, rfl, rfl, rfl, ?_, ?_, fun x hx => ?_⟩
  · have : recursionLimit = 1000 := rfl
    show 301 + n < recursionLimit; omega
  · have : cLine = 9900 := rfl
    show 4 + 8 * n + 200 < cLine; omega
  · have : (([] : List (PySem.Str × NameKind)).lookup x) = some .cell := hx
    cases this
theorem fn_blk {tbl : Tbl} {r : Rec} {f : String} {us : List (V × Bool)} {ps : List String} {body : List IS} (ht : tbl f = some (ps, body)) (h : fnI tbl r f us = .ok (.bool true, true)) : ps.length = us.length ∧ ∃ φ', blk r (ps.zip (us.map fun u => .val u.1 u.2)) body = .ok (.ret (.bool true) true, φ') := by
  unfold fnI at h
  rw [ht] at h
  dsimp only at h
  by_cases hl : ps.length = us.length
  · rw [if_pos hl] at h
    refine ⟨hl, ?_⟩
    cases hb : blk r (ps.zip (us.map fun u => .val u.1 u.2)) body with
    | bad => rw [hb] at h; cases h
    | exc m => rw [hb] at h; cases h
    | ok p =>
      rw [hb] at h
      obtain ⟨fl, φ'⟩ := p
      cases fl with
      | next => cases h
      | cont => cases h
      | brk => cases h
      | ret d f => cases h; exact ⟨φ', rfl⟩
  · rw [if_neg hl] at h; cases h
theorem law_fin {prog : Program} {w : World} {p : Program} {loose : List PySem.Str} {lv : List (PySem.Str × WData)} {mean : ExcName → Option Value} {mg mb : PySem.Str → Option Value} {s : Shared} {fa L : Addr} {vs : List Value} {zs : List Int} {Q : Value → Shared → Prop} {E : Value → Shared → Prop}
    {tbl : Tbl} {consts : String → Option V} {body : List IS} (T : Top p loose mean mg mb s.heap) (W : TopW p mg s.heap) (Lv : LooseAre lv mg s.heap)
    (hdefs : ∀ f ps body, tbl f = some (ps, body) → bindOk ps ∧ defB p f ps body = true ∧ zipW (toS 60) body (bodyOf p f) = bodyOf p f) (hfree : freeB p loose = true) (hcon : ∀ x d, consts x = some d → conB p lv x = some d) (hlaw : tbl "law" = some (["script"], body))
    (hmg : mg (nm "law") = some (.ref fa)) (hL : s.heap.IsList L vs.toArray) (hI : IntsAre vs zs) (hlen : zs.length ≤ 100) (htrue : ∀ n, (recN tbl consts (n + 52)).fn "law" [(.list (zs.map V.int), true)] = .ok (.bool true, true))
    (H : ∀ h' tk, (∀ b o, s.heap.get? b = some o → h'.get? b = some o) → Q (.bool true) { s with heap := h', toks := tk }) :
    wpAny (model prog w) callerA (call (.ref fa) [.ref L]) Q E s := by
  have S : Stat (prog, w) s.heap mg mb consts := ⟨T.g, T.b, T.nolimit, T.builtins, freeB_ok T hfree, fun x d hd => conB_ok T W Lv (hcon x d hd)⟩
  have hT : TblOk s.heap mg tbl := fun f ps body h => defB_ok T (hdefs f ps body h).1 (hdefs f ps body h).2.1 (hdefs f ps body h).2.2
  have hA := (all_sound S hT 51).1
  obtain ⟨fa', e, F⟩ := hT "law" _ _ hlaw
  rw [hmg] at e; cases e
  have ht := htrue 0
  rw [show (0 + 52 : Nat) = 51 + 1 from rfl] at ht
  obtain ⟨_, φ', hb⟩ := fn_blk hlaw (show fnI tbl (recN tbl consts 51) "law" [(.list (zs.map V.int), true)] = _ from ht)
  have hvl : vs.length ≤ sizeLine := by rw [hI.length]; exact Nat.le_trans hlen (Nat.le_trans (by decide) big_size)
  obtain ⟨o, ho, hc, n, hd⟩ := hL
  refine call_core (c := cx0) (E' := []) (Ω₀ := []) (φ₀ := [("script", .val (.list (zs.map V.int)) true)]) S F hA.ex (cx0_ok (by decide)) ⟨fun _ _ e => e, trivial, fun b hb => nomatch hb⟩ rfl (fun a ha => nomatch ha) (fun a ha => nomatch ha) List.nodup_nil ?_ (fun _ _ => rfl) ?_ (fun b hb => nomatch hb) ?_
  · intro h₀ own keep hown x sl hsl
    rw [List.lookup_cons] at hsl
    by_cases ex : x = "script"
    · subst ex
      simp only [beq_self_eq_true, Option.some.injEq] at hsl
      subst hsl
      refine ⟨.ref L, rfl, .ref L, rfl, .list ⟨(fun _ z => nomatch z), fun z => ?_⟩ (keep _ _ ho) hc hd hvl (ints_RA hI)⟩
      rcases List.mem_append.mp z with z | z
      · rw [hown L z] at ho; cases ho
      · cases z
    · rw [beq_eq_false_iff_ne.mpr ex] at hsl; cases hsl
  · intro x ds z
    rw [List.lookup_cons] at z
    split at z
    · cases z
    · cases z
  · have hb' : blk (recN tbl consts 51) [("script", .val (.list (zs.map V.int)) true)] body = .ok (.ret (.bool true) true, φ') := hb
    rw [hb']
    intro v h' tk hv k _
    have hv : R (prog, w) (fun a => true = true → a ∉ ([] : List Addr)) h' v (.bool true) := hv
    cases hv
    refine H h' tk fun b o e => ?_
    rcases k b o e (fun z => nomatch z) with q | ⟨q, _⟩
    · exact q
    · cases q
/-- parameters and arguments, told by functions -/
noncomputable def parsOf (f : Nat → Option PySem.Expr × Pos) : List String → List Arg
  | [] => []
  | p :: ps => ⟨nm p, (f 0).1, (f 0).2⟩ :: parsOf (fun i => f (i + 1)) ps
noncomputable def valsOf (g : Nat → Value) : List String → List Value
  | [] => []
  | _ :: ps => g 0 :: valsOf (fun i => g (i + 1)) ps
theorem pars_ex {ps : List String} : ∀ {as : List Arg}, as.map (·.arg) = ps.map nm → ∃ f, as = parsOf f ps := by
  induction ps with
  | nil => intro as h; exact ⟨fun _ => (none, default), List.map_eq_nil_iff.mp h⟩
  | cons p ps ih =>
    intro as h
    cases as with
    | nil => cases h
    | cons a as =>
      obtain ⟨h1, h2⟩ := List.cons.inj h
      obtain ⟨f, rfl⟩ := ih h2
      obtain ⟨y, n, q⟩ := a
      cases h1
      exact ⟨fun i => Nat.casesOn i (n, q) f, rfl⟩
theorem vals_ex {ps : List String} : ∀ {vs : List Value}, vs.length = ps.length → ∃ g, vs = valsOf g ps := by
  induction ps with
  | nil => intro vs h; exact ⟨fun _ => .none, List.length_eq_zero_iff.mp h⟩
  | cons p ps ih =>
    intro vs h
    cases vs with
    | nil => cases h
    | cons v vs =>
      obtain ⟨g, rfl⟩ := ih (Nat.succ.inj h)
      exact ⟨fun i => Nat.casesOn i v g, rfl⟩
noncomputable def bindF (ps : List String) : Prop := ∀ (name : PySem.Str) (f : Nat → Option PySem.Expr × Pos) (body : List Stmt) (scope : Scope) (pm code doc : Value) (g : Nat → Value), bindArgs (docDef name ⟨[], parsOf f ps, none, [], [], none, []⟩ body scope pm code doc) ⟨valsOf g ps, []⟩ = pure ((ps.map nm).zip (valsOf g ps))
theorem bind_of {ps : List String} (h : bindF ps) : bindOk ps := by
  intro name args body scope pm code doc vals h0 l0
  obtain ⟨f, rfl⟩ := pars_ex h0
  obtain ⟨g, rfl⟩ := vals_ex l0
  exact h name f body scope pm code doc g
namespace L5
open Mine
noncomputable def sigs : List (List String) := [["text"], ["value", "lowest"], ["text", "lowest"], ["cache", "key"], ["cache", "key", "value", "capacity"], ["pairs", "key"], ["pairs", "key", "value", "capacity"], ["ops", "capacity"], ["kind", "a", "b", "lay"], ["value"], ["log", "room"], ["deeds", "room"], ["script"]]
theorem sigs_ok : ∀ ps ∈ sigs, bindF ps := by
  unfold sigs
  exact List.forall_mem_cons.mpr ⟨fun _ _ _ _ _ _ _ _ => rfl, List.forall_mem_cons.mpr ⟨fun _ _ _ _ _ _ _ _ => rfl, List.forall_mem_cons.mpr ⟨fun _ _ _ _ _ _ _ _ => rfl, List.forall_mem_cons.mpr ⟨fun _ _ _ _ _ _ _ _ => rfl, List.forall_mem_cons.mpr ⟨fun _ _ _ _ _ _ _ _ => rfl, List.forall_mem_cons.mpr ⟨fun _ _ _ _ _ _ _ _ => rfl, List.forall_mem_cons.mpr ⟨fun _ _ _ _ _ _ _ _ => rfl, List.forall_mem_cons.mpr ⟨fun _ _ _ _ _ _ _ _ => rfl, List.forall_mem_cons.mpr ⟨fun _ _ _ _ _ _ _ _ => rfl, List.forall_mem_cons.mpr ⟨fun _ _ _ _ _ _ _ _ => rfl, List.forall_mem_cons.mpr ⟨fun _ _ _ _ _ _ _ _ => rfl, List.forall_mem_cons.mpr ⟨fun _ _ _ _ _ _ _ _ => rfl, List.forall_mem_cons.mpr ⟨fun _ _ _ _ _ _ _ _ => rfl, fun _ h => nomatch h⟩⟩⟩⟩⟩⟩⟩⟩⟩⟩⟩⟩⟩
theorem tbl_mem {f : String} {ps : List String} {body : List IS} (h : tbl f = some (ps, body)) : (f, ps, body) ∈ tblL ∧ bindOk ps := by
  have hm : (f, ps, body) ∈ tblL := look_mem h
  exact ⟨hm, bind_of (sigs_ok ps (List.contains_iff_mem.mp (List.all_eq_true.mp (show (tblL.all fun q => sigs.contains q.2.1) = true from by kernel_rfl) _ hm)))⟩
end L5
end Mine
end

open PySem PySem.W PyProof.Rows
set_option Elab.async false
set_option maxRecDepth 100000
set_option maxHeartbeats 8000000
namespace Mine.L5
noncomputable def keepB : Stmt → Bool
  | .Assign [.Name n _] _ _ => !(n == "__name__")
  | _ => true
noncomputable def view : Program := { PySem.Challenge.pw_sx_zstockroom_5 with main := { PySem.Challenge.pw_sx_zstockroom_5.main with body := PySem.Challenge.pw_sx_zstockroom_5.main.body.filter keepB } }
noncomputable def lv : List (PySem.Str × WData) := [(PySem.Str.ofString "MAX_NUMBER", .int 1000000000000000000)]
noncomputable def dRec : DefRec := match defOf view (PySem.Str.ofString "law") with
  | some x => x.1
  | none => ⟨PySem.Str.ofString "", ⟨[], [], none, [], [], none, []⟩, [], { kind := .function, names := [], isGenerator := false, isCoroutine := false }, ⟨0, 0, 0, 0⟩⟩
theorem said0 : PySem.Challenge.rw_sx_zstockroom_5.row.wellSaid = true := by
  unfold OpenRow.wellSaid
  repeat (refine look_both ?_ (by kernel_rfl))
  kernel_rfl
theorem said : PySem.Challenge.rw_sx_zstockroom_5.wellSaid = true := by
  unfold OpenLaw.wellSaid
  iterate 18 (refine look_both ?_ (by kernel_rfl))
  exact said0
end Mine.L5
set_option maxRecDepth 100000 in
set_option maxHeartbeats 8000000 in
theorem PySem.Challenge.cw_sx_zstockroom_5_holds : PySem.Challenge.rw_sx_zstockroom_5.Holds := by
  w_on
  refine holds_law Mine.L5.said fun said => ?_
  refine holds_open (q := Mine.L5.view) (loose := [PySem.Str.ofString "MAX_NUMBER"]) (Xt := fun s => xlAt Mine.L5.view Mine.L5.lv s && recOk (RowW.records (OpenRow.toRowW PySem.Challenge.rw_sx_zstockroom_5.row)) s) (XP := XL Mine.L5.view Mine.L5.lv) (Yf := Hook.obs Hook.none) (Ya := Hook.val Hook.none) (YP := Hook.says Hook.none) (d := Mine.L5.dRec) (kwd := []) (N := 2134) ?hl (Hook.of Hook.none) (Hook.keeps Hook.none) (fun s e => xl_of s (Bool.and_eq_true_iff.mp e).1) XL.keeps (by kernel_rfl) (by kernel_rfl) (by kernel_rfl) (fun s e => recFacts_of (Bool.and_eq_true_iff.mp e).2) (by rfl) (by assumption) (by decide +kernel) ⟨rfl, rfl, rfl, rfl, rfl, by decide +kernel⟩ ?hw ?hc
  case hl => intro w; kernel_rfl
  case hw => exact ⟨[WData.list []], by decide +kernel, by decide +kernel⟩
  case hc =>
    intro w s₀ s₁ mg mb G Y fa o pm cd doc dV kV ho hd hcd hD hmg hg args vals as hpre hlay hrd hwl hlo
    have V := G.X.2
    have T := G.T
    have W := G.W
    clear hd hcd hD Y ho
    have hmg : mg (PySem.Str.ofString "law") = some (.ref fa) := by
      rw [show Mine.L5.dRec.name = PySem.Str.ofString "law" from by kernel_rfl] at hmg
      exact hmg
    wrow_args hpre hlay hrd hwl hlo
    rename_i zs _ _ _ _ _ _ _ L vs _ hL _ _ _ hI _ hlen _
    refine Mine.law_fin (tbl := Mine.L5.tbl) (consts := Mine.L5.consts) T W V (fun f ps body h => ⟨(Mine.L5.tbl_mem h).2, List.all_eq_true.mp (show (Mine.L5.tblL.all fun q => Mine.defB Mine.L5.view q.1 q.2.1 q.2.2) = true from by kernel_rfl) _ (Mine.L5.tbl_mem h).1, List.map_inj_left.mp (show (Mine.L5.tblL.map fun q => Mine.zipW (Mine.toS 60) q.2.2 (Mine.bodyOf Mine.L5.view q.1)) = Mine.L5.tblL.map (fun q => Mine.bodyOf Mine.L5.view q.1) from by kernel_rfl) _ (Mine.L5.tbl_mem h).1⟩) (by kernel_rfl) (fun x d h => ?hcon) rfl hmg hL hI (by omega) (fun n => Mine.L5.law_true _) ?fin
    case hcon =>
      have q : ∀ c ∈ Mine.L5.conL, Mine.conB Mine.L5.view Mine.L5.lv c.1 = some c.2 := by
        unfold Mine.L5.conL
        exact List.forall_mem_cons.mpr ⟨by kernel_rfl, List.forall_mem_cons.mpr ⟨by kernel_rfl, List.forall_mem_cons.mpr ⟨by kernel_rfl, List.forall_mem_cons.mpr ⟨by kernel_rfl, List.forall_mem_cons.mpr ⟨by kernel_rfl, List.forall_mem_cons.mpr ⟨by kernel_rfl, List.forall_mem_cons.mpr ⟨by kernel_rfl, List.forall_mem_cons.mpr ⟨by kernel_rfl, List.forall_mem_cons.mpr ⟨by kernel_rfl, fun _ h => nomatch h⟩⟩⟩⟩⟩⟩⟩⟩⟩
      exact q _ (Mine.look_mem h)
    case fin =>
      intro h' tk keep
      refine GoodW.toG ⟨.inl ⟨.bool true, .bool true, [], rfl, fun _ => rfl, .bool true, ?_, fun _ => ⟨List.nodup_nil, fun a ha => nomatch ha⟩⟩, keep, rfl, hg⟩
      wrow_post
